/-
  Contracts and plain laws, joined: part 20.
-/
import Derived.Test.YtokkjaflmcjlhaaGreatQC3
namespace Go.Proofs.YtokkjaflmcjlhaaGreat
open Go.ChangeShapes Go.WideShapes Go.ChangeAt Go.RowKit
set_option linter.unusedVariables false
set_option linter.unusedSimpArgs false
set_option maxRecDepth 100000
set_option maxHeartbeats 4000000
abbrev pV (x:List Int) (m:Int):Prop:=dG Tryz.prog 61 [.one (.sl 3 1 (x.map intD)),.one (.int .i64 m)] (vI (aQ (bX x) m)) []
theorem aBf (x:List Int) (m:Int) (hf:aC3 x) (h0:0≤m) (h1:m≤1048576):pV x m:=by
 refine aY bK aU Tryz.func61 (by kernel_rfl) (.len x.length<| .br (.fin []) (.fin [])) (p:=(x.map intD).length≤9223372036854775807→Lm intD x∧(dB (m - ((x.length:Nat):Int))∧(((decide ((m - ((x.length:Nat):Int))<(0:Int)))=true→(-1:Int)=(aQ (bX x) m)∧True)∧((decide ((m - ((x.length:Nat):Int))<(0:Int)))=false→(m - ((x.length:Nat):Int))=(aQ (bX x) m)∧True)))) (by kernel_rfl) ?_
 intro n0
 simp only [List.length_map] at n0
 refine ⟨List.length_map _,⟨by omega,by omega⟩,fun c0=>?_,fun c0=>?_⟩
 ·replace c0:=yq c0
  refine ⟨?_,trivial⟩
  ·unfold bX;first | (rw [bI (by omega)];done) | (rw [aO (by omega)];done)
 ·replace c0:=nq c0
  refine ⟨?_,trivial⟩
  ·unfold bX;first | (rw [bI (by omega)];done) | (rw [aO (by omega)];done)
abbrev aAd (x:List (List Int)) (m:Int):Prop:=dG Tryz.prog 256 [.one (.sl 32 1 (x.map aE)),.one (.int .i64 m)] (vI (aQ (cM x) m)) []
theorem aJa (x:List (List Int)) (m:Int) (hf:aES x) (h0:0≤m) (h1:m≤1048576):aAd x m:=by
 refine aY bK aU Tryz.func256 (by kernel_rfl) (.len x.length<| .br (.fin []) (.loop (Nat × Int) (Q2 Nat Int) [1,5,12,13,14,15,16,17,18,19,20,21,22,23,24,25] [] (fun yy0=>[(5,vI (yy0.1:Int)),(1,vI yy0.2)]) (fun yy0=>[]) (fun yy0=>yy0.1≤x.length∧yy0.2=m - x.length - (bN bX (x.take yy0.1):Nat)∧0≤yy0.2) (fun yy0=>x.length - yy0.1) (fun yy0=> .len x.length<| .br (.elem _ aE x (fun e20=> .call (vI (aQ (bX e20) yy0.2)) []<| .br (.fin []) (.back []))) (.fin [])))) (p:=(x.map aE).length≤9223372036854775807→Lm aE x∧(dB (m - ((x.length:Nat):Int))∧(((decide ((m - ((x.length:Nat):Int))<(0:Int)))=true→(-1:Int)=(aQ (cM x) m)∧True)∧((decide ((m - ((x.length:Nat):Int))<(0:Int)))=false→(∃(k:Nat) (z:Int),(0:Int)=(k:Int)∧(m - ((x.length:Nat):Int))=z∧k≤x.length∧z=m - x.length - (bN bX (x.take k):Nat)∧0≤z)∧ ∀(k:Nat) (z:Int),(k≤x.length∧z=m - x.length - (bN bX (x.take k):Nat)∧0≤z)→Lm aE x∧(((decide ((k:Int)<((x.length:Nat):Int)))=true→0≤(k:Int)∧Em aE x k fun e20=>pV e20 z∧(((decide ((aQ (bX e20) z)<(0:Int)))=true→(-1:Int)=(aQ (cM x) m)∧True)∧((decide ((aQ (bX e20) z)<(0:Int)))=false→dB ((k:Int)+(1:Int))∧ ∃(k' :Nat) (z' :Int),((k:Int)+(1:Int))=(k' :Int)∧(aQ (bX e20) z)=z' ∧(k' ≤x.length∧z' =m - x.length - (bN bX (x.take k'):Nat)∧0≤z')∧x.length - k' <x.length - k)))∧((decide ((k:Int)<((x.length:Nat):Int)))=false→z=(aQ (cM x) m)∧True)))))) (by kernel_rfl) ?_
 intro n0
 simp only [List.length_map] at n0
 have hS:cM x=x.length+bN bX x:=rfl
 refine ⟨List.length_map _,⟨by omega,by omega⟩,fun c0=>?_,fun c0=>?_⟩
 ·replace c0:=yq c0
  refine ⟨?_,trivial⟩
  ·first | (rw [bI (by omega)];done) | (rw [aO (by omega)];done) | (rw [aO (by omega)];omega)
 ·replace c0:=nq c0
  refine ⟨⟨0,m - ((x.length:Nat):Int),rfl,rfl,Nat.zero_le _,by simp [bN],by omega⟩,fun k z ⟨hk,hz,hz0⟩=>?_⟩
  refine ⟨List.length_map _,fun c1=>?_,fun c1=>?_⟩
  ·replace c1:=yq c1
   obtain ⟨y,hy⟩:=cC (l:=x) (k:=k) (by omega)
   have hfy:=hf y (List.mem_of_getElem? hy)
   refine ⟨by omega,rfl,by omega,fun e20 h20=>?_⟩
   obtain rfl:=bA hy h20
   refine ⟨aBf e20 _ (by first | assumption | exact hf) (by omega) (by omega),fun c2=>?_,fun c2=>?_⟩
   ·replace c2:=yq c2
    have y3:=iS c2
    have y4:=cW bX ‹x[k]? =some _›
    have y5:=fG bX x (k+1)
    refine ⟨?_,trivial⟩
    ·first | (rw [bI (by omega)];done) | (rw [aO (by omega)];done) | (rw [aO (by omega)];omega)
   ·replace c2:=nq c2
    have y2:=aO (hJ c2)
    have y3:=hJ c2
    have y4:=cW bX ‹x[k]? =some _›
    refine ⟨⟨by omega,by omega⟩,?_⟩
    exact ⟨k+1,aQ (bX e20) z,rfl,rfl,⟨by omega,by rw [y2,y4,hz];omega,by rw [y2];omega⟩,by omega⟩
  ·replace c1:=nq c1
   have y6:k=x.length:=by omega
   rw [y6,List.take_length] at hz
   refine ⟨?_,trivial⟩
   ·first | (rw [bI (by omega)];done) | (rw [aO (by omega)];done) | (rw [aO (by omega)];omega)
abbrev aFb (x:aR) (m:Int):Prop:=dG Tryz.prog 202 [.agg [.str x.name,.int .i64 x.arity,.sl 32 1 (x.rows.map aE)],.one (.int .i64 m)] (vI (aQ (eN x) m)) []
theorem aOp (x:aR) (m:Int) (hf:aKD x) (h0:0≤m) (h1:m≤1048576):aFb x m:=by
 refine aY bK aU Tryz.func202 (by kernel_rfl) (.br (.fin []) (.call (vI (aQ (cM x.rows) (m - ((x.name.size:Nat):Int)))) []<| .br (.fin []) (.fin []))) (p:=(x.rows.map aE).length≤9223372036854775807→dB (m - ((x.name.size:Nat):Int))∧(((decide ((m - ((x.name.size:Nat):Int))<(0:Int)))=true→(-1:Int)=(aQ (eN x) m)∧True)∧((decide ((m - ((x.name.size:Nat):Int))<(0:Int)))=false→aAd x.rows (m - ((x.name.size:Nat):Int))∧(((decide ((aQ (cM x.rows) (m - ((x.name.size:Nat):Int)))<(0:Int)))=true→(-1:Int)=(aQ (eN x) m)∧True)∧((decide ((aQ (cM x.rows) (m - ((x.name.size:Nat):Int)))<(0:Int)))=false→(aQ (cM x.rows) (m - ((x.name.size:Nat):Int)))=(aQ (eN x) m)∧True))))) (by kernel_rfl) ?_
 intro n0
 simp only [List.length_map] at n0
 obtain ⟨f_name,f_arity,f_rows⟩:=hf
 have hmx:maxLen=9223372036854775807:=rfl
 have g_name:x.name.size≤maxLen:=f_name
 refine ⟨⟨by omega,by omega⟩,fun c0=>?_,fun c0=>?_⟩
 ·replace c0:=yq c0
  refine ⟨?_,trivial⟩
  ·unfold eN;first | (rw [bI (by omega)];done) | (rw [aO (by omega)];done) | (rw [aO (by omega)];omega)
 ·replace c0:=nq c0
  refine ⟨aJa x.rows _ (by first | assumption | exact hf) (by omega) (by omega),fun c1=>?_,fun c1=>?_⟩
  ·replace c1:=yq c1
   have y1:=iS c1
   refine ⟨?_,trivial⟩
   ·unfold eN;first | (rw [bI (by omega)];done) | (rw [aO (by omega)];done) | (rw [aO (by omega)];omega)
  ·replace c1:=nq c1
   have y1:=hJ c1
   rw [aO y1] at*
   refine ⟨?_,trivial⟩
   ·unfold eN;first | (rw [bI (by omega)];done) | (rw [aO (by omega)];done) | (rw [aO (by omega)];omega)
abbrev aDG (x:List aR) (m:Int):Prop:=dG Tryz.prog 125 [.one (.sl 162 3 (x.map aP)),.one (.int .i64 m)] (vI (aQ (gO x) m)) []
theorem aMf (x:List aR) (m:Int) (hf:aD3 x) (h0:0≤m) (h1:m≤1048576):aDG x m:=by
 refine aY bK aU Tryz.func125 (by kernel_rfl) (.len x.length<| .br (.fin []) (.loop (Nat × Int) (Q2 Nat Int) [1,5,12,13,14,15,16,17,18,19,20,21,22,23,24,25] [] (fun yy0=>[(5,vI (yy0.1:Int)),(1,vI yy0.2)]) (fun yy0=>[]) (fun yy0=>yy0.1≤x.length∧yy0.2=m - x.length - (bN eN (x.take yy0.1):Nat)∧0≤yy0.2) (fun yy0=>x.length - yy0.1) (fun yy0=> .len x.length<| .br (.elem _ aP x (fun e20=> .call (vI (aQ (eN e20) yy0.2)) []<| .br (.fin []) (.back []))) (.fin [])))) (p:=(x.map aP).length≤9223372036854775807→Lm aP x∧(dB (m - ((x.length:Nat):Int))∧(((decide ((m - ((x.length:Nat):Int))<(0:Int)))=true→(-1:Int)=(aQ (gO x) m)∧True)∧((decide ((m - ((x.length:Nat):Int))<(0:Int)))=false→(∃(k:Nat) (z:Int),(0:Int)=(k:Int)∧(m - ((x.length:Nat):Int))=z∧k≤x.length∧z=m - x.length - (bN eN (x.take k):Nat)∧0≤z)∧ ∀(k:Nat) (z:Int),(k≤x.length∧z=m - x.length - (bN eN (x.take k):Nat)∧0≤z)→Lm aP x∧(((decide ((k:Int)<((x.length:Nat):Int)))=true→0≤(k:Int)∧Em aP x k fun e20=>aFb e20 z∧(((decide ((aQ (eN e20) z)<(0:Int)))=true→(-1:Int)=(aQ (gO x) m)∧True)∧((decide ((aQ (eN e20) z)<(0:Int)))=false→dB ((k:Int)+(1:Int))∧ ∃(k' :Nat) (z' :Int),((k:Int)+(1:Int))=(k' :Int)∧(aQ (eN e20) z)=z' ∧(k' ≤x.length∧z' =m - x.length - (bN eN (x.take k'):Nat)∧0≤z')∧x.length - k' <x.length - k)))∧((decide ((k:Int)<((x.length:Nat):Int)))=false→z=(aQ (gO x) m)∧True)))))) (by kernel_rfl) ?_
 intro n0
 simp only [List.length_map] at n0
 have hS:gO x=x.length+bN eN x:=rfl
 refine ⟨List.length_map _,⟨by omega,by omega⟩,fun c0=>?_,fun c0=>?_⟩
 ·replace c0:=yq c0
  refine ⟨?_,trivial⟩
  ·first | (rw [bI (by omega)];done) | (rw [aO (by omega)];done) | (rw [aO (by omega)];omega)
 ·replace c0:=nq c0
  refine ⟨⟨0,m - ((x.length:Nat):Int),rfl,rfl,Nat.zero_le _,by simp [bN],by omega⟩,fun k z ⟨hk,hz,hz0⟩=>?_⟩
  refine ⟨List.length_map _,fun c1=>?_,fun c1=>?_⟩
  ·replace c1:=yq c1
   obtain ⟨y,hy⟩:=cC (l:=x) (k:=k) (by omega)
   have hfy:=hf y (List.mem_of_getElem? hy)
   refine ⟨by omega,rfl,by omega,fun e20 h20=>?_⟩
   obtain rfl:=bA hy h20
   refine ⟨aOp e20 _ (by first | assumption | exact hf) (by omega) (by omega),fun c2=>?_,fun c2=>?_⟩
   ·replace c2:=yq c2
    have y3:=iS c2
    have y4:=cW eN ‹x[k]? =some _›
    have y5:=fG eN x (k+1)
    refine ⟨?_,trivial⟩
    ·first | (rw [bI (by omega)];done) | (rw [aO (by omega)];done) | (rw [aO (by omega)];omega)
   ·replace c2:=nq c2
    have y2:=aO (hJ c2)
    have y3:=hJ c2
    have y4:=cW eN ‹x[k]? =some _›
    refine ⟨⟨by omega,by omega⟩,?_⟩
    exact ⟨k+1,aQ (eN e20) z,rfl,rfl,⟨by omega,by rw [y2,y4,hz];omega,by rw [y2];omega⟩,by omega⟩
  ·replace c1:=nq c1
   have y6:k=x.length:=by omega
   rw [y6,List.take_length] at hz
   refine ⟨?_,trivial⟩
   ·first | (rw [bI (by omega)];done) | (rw [aO (by omega)];done) | (rw [aO (by omega)];omega)
abbrev zS (x:aV) (m:Int):Prop:=dG Tryz.prog 57 [.agg [.sl 162 3 (x.tables.map aP)],.one (.int .i64 m)] (vI (aQ (bF x) m)) []
theorem aJb (x:aV) (m:Int) (hf:aCA x) (h0:0≤m) (h1:m≤1048576):zS x m:=by
 refine aY bK aU Tryz.func57 (by kernel_rfl) (.call (vI (aQ (gO x.tables) m)) []<| .br (.fin []) (.fin [])) (p:=(x.tables.map aP).length≤9223372036854775807→aDG x.tables m∧(((decide ((aQ (gO x.tables) m)<(0:Int)))=true→(-1:Int)=(aQ (bF x) m)∧True)∧((decide ((aQ (gO x.tables) m)<(0:Int)))=false→(aQ (gO x.tables) m)=(aQ (bF x) m)∧True))) (by kernel_rfl) ?_
 intro n0
 simp only [List.length_map] at n0
 have f_tables:=hf
 have hmx:maxLen=9223372036854775807:=rfl
 refine ⟨aMf x.tables _ (by first | assumption | exact hf) (by omega) (by omega),fun c0=>?_,fun c0=>?_⟩
 ·replace c0:=yq c0
  have y0:=iS c0
  refine ⟨?_,trivial⟩
  ·unfold bF;first | (rw [bI (by omega)];done) | (rw [aO (by omega)];done) | (rw [aO (by omega)];omega)
 ·replace c0:=nq c0
  have y0:=hJ c0
  rw [aO y0] at*
  refine ⟨?_,trivial⟩
  ·unfold bF;first | (rw [bI (by omega)];done) | (rw [aO (by omega)];done) | (rw [aO (by omega)];omega)
abbrev vF (x:aG) (m:Int):Prop:=dG Tryz.prog 281 [.agg [.sl 3 1 (x.columns.map intD),.sl 32 1 (x.values.map aE),.sl 3 1 (x.counts.map intD)],.one (.int .i64 m)] (vI (aQ (bH x) m)) []
theorem aGF (x:aG) (m:Int) (hf:wJ x) (h0:0≤m) (h1:m≤1048576):vF x m:=by
 refine aY bK aU Tryz.func281 (by kernel_rfl) (.call (vI (aQ (bX x.columns) m)) []<| .br (.fin []) (.call (vI (aQ (cM x.values) (aQ (bX x.columns) m))) []<| .br (.fin []) (.call (vI (aQ (bX x.counts) (aQ (cM x.values) (aQ (bX x.columns) m)))) []<| .br (.fin []) (.fin [])))) (p:=(x.columns.map intD).length≤9223372036854775807→(x.values.map aE).length≤9223372036854775807→(x.counts.map intD).length≤9223372036854775807→pV x.columns m∧(((decide ((aQ (bX x.columns) m)<(0:Int)))=true→(-1:Int)=(aQ (bH x) m)∧True)∧((decide ((aQ (bX x.columns) m)<(0:Int)))=false→aAd x.values (aQ (bX x.columns) m)∧(((decide ((aQ (cM x.values) (aQ (bX x.columns) m))<(0:Int)))=true→(-1:Int)=(aQ (bH x) m)∧True)∧((decide ((aQ (cM x.values) (aQ (bX x.columns) m))<(0:Int)))=false→pV x.counts (aQ (cM x.values) (aQ (bX x.columns) m))∧(((decide ((aQ (bX x.counts) (aQ (cM x.values) (aQ (bX x.columns) m)))<(0:Int)))=true→(-1:Int)=(aQ (bH x) m)∧True)∧((decide ((aQ (bX x.counts) (aQ (cM x.values) (aQ (bX x.columns) m)))<(0:Int)))=false→(aQ (bX x.counts) (aQ (cM x.values) (aQ (bX x.columns) m)))=(aQ (bH x) m)∧True))))))) (by kernel_rfl) ?_
 intro n0 n1 n2
 simp only [List.length_map] at n0 n1 n2
 obtain ⟨f_columns,f_values,f_counts⟩:=hf
 have hmx:maxLen=9223372036854775807:=rfl
 refine ⟨aBf x.columns _ (by first | assumption | exact hf) (by omega) (by omega),fun c0=>?_,fun c0=>?_⟩
 ·replace c0:=yq c0
  have y0:=iS c0
  refine ⟨?_,trivial⟩
  ·unfold bH;first | (rw [bI (by omega)];done) | (rw [aO (by omega)];done) | (rw [aO (by omega)];omega)
 ·replace c0:=nq c0
  have y0:=hJ c0
  rw [aO y0] at*
  refine ⟨aJa x.values _ (by first | assumption | exact hf) (by omega) (by omega),fun c1=>?_,fun c1=>?_⟩
  ·replace c1:=yq c1
   have y1:=iS c1
   refine ⟨?_,trivial⟩
   ·unfold bH;first | (rw [bI (by omega)];done) | (rw [aO (by omega)];done) | (rw [aO (by omega)];omega)
  ·replace c1:=nq c1
   have y1:=hJ c1
   rw [aO y1] at*
   refine ⟨aBf x.counts _ (by first | assumption | exact hf) (by omega) (by omega),fun c2=>?_,fun c2=>?_⟩
   ·replace c2:=yq c2
    have y2:=iS c2
    refine ⟨?_,trivial⟩
    ·unfold bH;first | (rw [bI (by omega)];done) | (rw [aO (by omega)];done) | (rw [aO (by omega)];omega)
   ·replace c2:=nq c2
    have y2:=hJ c2
    rw [aO y2] at*
    refine ⟨?_,trivial⟩
    ·unfold bH;first | (rw [bI (by omega)];done) | (rw [aO (by omega)];done) | (rw [aO (by omega)];omega)
abbrev tL (x:List aG) (m:Int):Prop:=dG Tryz.prog 257 [.one (.sl 218 3 (x.map aA)),.one (.int .i64 m)] (vI (aQ (cQ x) m)) []
theorem aFc (x:List aG) (m:Int) (hf:pE x) (h0:0≤m) (h1:m≤1048576):tL x m:=by
 refine aY bK aU Tryz.func257 (by kernel_rfl) (.len x.length<| .br (.fin []) (.loop (Nat × Int) (Q2 Nat Int) [1,5,12,13,14,15,16,17,18,19,20,21,22,23,24,25] [] (fun yy0=>[(5,vI (yy0.1:Int)),(1,vI yy0.2)]) (fun yy0=>[]) (fun yy0=>yy0.1≤x.length∧yy0.2=m - x.length - (bN bH (x.take yy0.1):Nat)∧0≤yy0.2) (fun yy0=>x.length - yy0.1) (fun yy0=> .len x.length<| .br (.elem _ aA x (fun e20=> .call (vI (aQ (bH e20) yy0.2)) []<| .br (.fin []) (.back []))) (.fin [])))) (p:=(x.map aA).length≤9223372036854775807→Lm aA x∧(dB (m - ((x.length:Nat):Int))∧(((decide ((m - ((x.length:Nat):Int))<(0:Int)))=true→(-1:Int)=(aQ (cQ x) m)∧True)∧((decide ((m - ((x.length:Nat):Int))<(0:Int)))=false→(∃(k:Nat) (z:Int),(0:Int)=(k:Int)∧(m - ((x.length:Nat):Int))=z∧k≤x.length∧z=m - x.length - (bN bH (x.take k):Nat)∧0≤z)∧ ∀(k:Nat) (z:Int),(k≤x.length∧z=m - x.length - (bN bH (x.take k):Nat)∧0≤z)→Lm aA x∧(((decide ((k:Int)<((x.length:Nat):Int)))=true→0≤(k:Int)∧Em aA x k fun e20=>vF e20 z∧(((decide ((aQ (bH e20) z)<(0:Int)))=true→(-1:Int)=(aQ (cQ x) m)∧True)∧((decide ((aQ (bH e20) z)<(0:Int)))=false→dB ((k:Int)+(1:Int))∧ ∃(k' :Nat) (z' :Int),((k:Int)+(1:Int))=(k' :Int)∧(aQ (bH e20) z)=z' ∧(k' ≤x.length∧z' =m - x.length - (bN bH (x.take k'):Nat)∧0≤z')∧x.length - k' <x.length - k)))∧((decide ((k:Int)<((x.length:Nat):Int)))=false→z=(aQ (cQ x) m)∧True)))))) (by kernel_rfl) ?_
 intro n0
 simp only [List.length_map] at n0
 have hS:cQ x=x.length+bN bH x:=rfl
 refine ⟨List.length_map _,⟨by omega,by omega⟩,fun c0=>?_,fun c0=>?_⟩
 ·replace c0:=yq c0
  refine ⟨?_,trivial⟩
  ·first | (rw [bI (by omega)];done) | (rw [aO (by omega)];done) | (rw [aO (by omega)];omega)
 ·replace c0:=nq c0
  refine ⟨⟨0,m - ((x.length:Nat):Int),rfl,rfl,Nat.zero_le _,by simp [bN],by omega⟩,fun k z ⟨hk,hz,hz0⟩=>?_⟩
  refine ⟨List.length_map _,fun c1=>?_,fun c1=>?_⟩
  ·replace c1:=yq c1
   obtain ⟨y,hy⟩:=cC (l:=x) (k:=k) (by omega)
   have hfy:=hf y (List.mem_of_getElem? hy)
   refine ⟨by omega,rfl,by omega,fun e20 h20=>?_⟩
   obtain rfl:=bA hy h20
   refine ⟨aGF e20 _ (by first | assumption | exact hf) (by omega) (by omega),fun c2=>?_,fun c2=>?_⟩
   ·replace c2:=yq c2
    have y3:=iS c2
    have y4:=cW bH ‹x[k]? =some _›
    have y5:=fG bH x (k+1)
    refine ⟨?_,trivial⟩
    ·first | (rw [bI (by omega)];done) | (rw [aO (by omega)];done) | (rw [aO (by omega)];omega)
   ·replace c2:=nq c2
    have y2:=aO (hJ c2)
    have y3:=hJ c2
    have y4:=cW bH ‹x[k]? =some _›
    refine ⟨⟨by omega,by omega⟩,?_⟩
    exact ⟨k+1,aQ (bH e20) z,rfl,rfl,⟨by omega,by rw [y2,y4,hz];omega,by rw [y2];omega⟩,by omega⟩
  ·replace c1:=nq c1
   have y6:k=x.length:=by omega
   rw [y6,List.take_length] at hz
   refine ⟨?_,trivial⟩
   ·first | (rw [bI (by omega)];done) | (rw [aO (by omega)];done) | (rw [aO (by omega)];omega)
abbrev vG (x:aB) (m:Int):Prop:=dG Tryz.prog 203 [.agg [.str x.name,.int .i64 x.arity,.int .i64 x.rowCount,.sl 218 3 (x.groups.map aA)],.one (.int .i64 m)] (vI (aQ (aW x) m)) []
theorem aGG (x:aB) (m:Int) (hf:wK x) (h0:0≤m) (h1:m≤1048576):vG x m:=by
 refine aY bK aU Tryz.func203 (by kernel_rfl) (.br (.fin []) (.call (vI (aQ (cQ x.groups) (m - ((x.name.size:Nat):Int)))) []<| .br (.fin []) (.fin []))) (p:=(x.groups.map aA).length≤9223372036854775807→dB (m - ((x.name.size:Nat):Int))∧(((decide ((m - ((x.name.size:Nat):Int))<(0:Int)))=true→(-1:Int)=(aQ (aW x) m)∧True)∧((decide ((m - ((x.name.size:Nat):Int))<(0:Int)))=false→tL x.groups (m - ((x.name.size:Nat):Int))∧(((decide ((aQ (cQ x.groups) (m - ((x.name.size:Nat):Int)))<(0:Int)))=true→(-1:Int)=(aQ (aW x) m)∧True)∧((decide ((aQ (cQ x.groups) (m - ((x.name.size:Nat):Int)))<(0:Int)))=false→(aQ (cQ x.groups) (m - ((x.name.size:Nat):Int)))=(aQ (aW x) m)∧True))))) (by kernel_rfl) ?_
 intro n0
 simp only [List.length_map] at n0
 obtain ⟨f_name,f_arity,f_rowCount,f_groups⟩:=hf
 have hmx:maxLen=9223372036854775807:=rfl
 have g_name:x.name.size≤maxLen:=f_name
 refine ⟨⟨by omega,by omega⟩,fun c0=>?_,fun c0=>?_⟩
 ·replace c0:=yq c0
  refine ⟨?_,trivial⟩
  ·unfold aW;first | (rw [bI (by omega)];done) | (rw [aO (by omega)];done) | (rw [aO (by omega)];omega)
 ·replace c0:=nq c0
  refine ⟨aFc x.groups _ (by first | assumption | exact hf) (by omega) (by omega),fun c1=>?_,fun c1=>?_⟩
  ·replace c1:=yq c1
   have y1:=iS c1
   refine ⟨?_,trivial⟩
   ·unfold aW;first | (rw [bI (by omega)];done) | (rw [aO (by omega)];done) | (rw [aO (by omega)];omega)
  ·replace c1:=nq c1
   have y1:=hJ c1
   rw [aO y1] at*
   refine ⟨?_,trivial⟩
   ·unfold aW;first | (rw [bI (by omega)];done) | (rw [aO (by omega)];done) | (rw [aO (by omega)];omega)
abbrev tM (x:List aB) (m:Int):Prop:=dG Tryz.prog 126 [.one (.sl 121 4 (x.map aC)),.one (.int .i64 m)] (vI (aQ (cX x) m)) []
theorem aFd (x:List aB) (m:Int) (hf:pF x) (h0:0≤m) (h1:m≤1048576):tM x m:=by
 refine aY bK aU Tryz.func126 (by kernel_rfl) (.len x.length<| .br (.fin []) (.loop (Nat × Int) (Q2 Nat Int) [1,5,12,13,14,15,16,17,18,19,20,21,22,23,24,25] [] (fun yy0=>[(5,vI (yy0.1:Int)),(1,vI yy0.2)]) (fun yy0=>[]) (fun yy0=>yy0.1≤x.length∧yy0.2=m - x.length - (bN aW (x.take yy0.1):Nat)∧0≤yy0.2) (fun yy0=>x.length - yy0.1) (fun yy0=> .len x.length<| .br (.elem _ aC x (fun e20=> .call (vI (aQ (aW e20) yy0.2)) []<| .br (.fin []) (.back []))) (.fin [])))) (p:=(x.map aC).length≤9223372036854775807→Lm aC x∧(dB (m - ((x.length:Nat):Int))∧(((decide ((m - ((x.length:Nat):Int))<(0:Int)))=true→(-1:Int)=(aQ (cX x) m)∧True)∧((decide ((m - ((x.length:Nat):Int))<(0:Int)))=false→(∃(k:Nat) (z:Int),(0:Int)=(k:Int)∧(m - ((x.length:Nat):Int))=z∧k≤x.length∧z=m - x.length - (bN aW (x.take k):Nat)∧0≤z)∧ ∀(k:Nat) (z:Int),(k≤x.length∧z=m - x.length - (bN aW (x.take k):Nat)∧0≤z)→Lm aC x∧(((decide ((k:Int)<((x.length:Nat):Int)))=true→0≤(k:Int)∧Em aC x k fun e20=>vG e20 z∧(((decide ((aQ (aW e20) z)<(0:Int)))=true→(-1:Int)=(aQ (cX x) m)∧True)∧((decide ((aQ (aW e20) z)<(0:Int)))=false→dB ((k:Int)+(1:Int))∧ ∃(k' :Nat) (z' :Int),((k:Int)+(1:Int))=(k' :Int)∧(aQ (aW e20) z)=z' ∧(k' ≤x.length∧z' =m - x.length - (bN aW (x.take k'):Nat)∧0≤z')∧x.length - k' <x.length - k)))∧((decide ((k:Int)<((x.length:Nat):Int)))=false→z=(aQ (cX x) m)∧True)))))) (by kernel_rfl) ?_
 intro n0
 simp only [List.length_map] at n0
 have hS:cX x=x.length+bN aW x:=rfl
 refine ⟨List.length_map _,⟨by omega,by omega⟩,fun c0=>?_,fun c0=>?_⟩
 ·replace c0:=yq c0
  refine ⟨?_,trivial⟩
  ·first | (rw [bI (by omega)];done) | (rw [aO (by omega)];done) | (rw [aO (by omega)];omega)
 ·replace c0:=nq c0
  refine ⟨⟨0,m - ((x.length:Nat):Int),rfl,rfl,Nat.zero_le _,by simp [bN],by omega⟩,fun k z ⟨hk,hz,hz0⟩=>?_⟩
  refine ⟨List.length_map _,fun c1=>?_,fun c1=>?_⟩
  ·replace c1:=yq c1
   obtain ⟨y,hy⟩:=cC (l:=x) (k:=k) (by omega)
   have hfy:=hf y (List.mem_of_getElem? hy)
   refine ⟨by omega,rfl,by omega,fun e20 h20=>?_⟩
   obtain rfl:=bA hy h20
   refine ⟨aGG e20 _ (by first | assumption | exact hf) (by omega) (by omega),fun c2=>?_,fun c2=>?_⟩
   ·replace c2:=yq c2
    have y3:=iS c2
    have y4:=cW aW ‹x[k]? =some _›
    have y5:=fG aW x (k+1)
    refine ⟨?_,trivial⟩
    ·first | (rw [bI (by omega)];done) | (rw [aO (by omega)];done) | (rw [aO (by omega)];omega)
   ·replace c2:=nq c2
    have y2:=aO (hJ c2)
    have y3:=hJ c2
    have y4:=cW aW ‹x[k]? =some _›
    refine ⟨⟨by omega,by omega⟩,?_⟩
    exact ⟨k+1,aQ (aW e20) z,rfl,rfl,⟨by omega,by rw [y2,y4,hz];omega,by rw [y2];omega⟩,by omega⟩
  ·replace c1:=nq c1
   have y6:k=x.length:=by omega
   rw [y6,List.take_length] at hz
   refine ⟨?_,trivial⟩
   ·first | (rw [bI (by omega)];done) | (rw [aO (by omega)];done) | (rw [aO (by omega)];omega)
abbrev xZ (x:bS) (m:Int):Prop:=dG Tryz.prog 58 [.agg [.int .i64 x.version,.sl 121 4 (x.tables.map aC)],.one (.int .i64 m)] (vI (aQ (bM x) m)) []
theorem aHx (x:bS) (m:Int) (hf:aAE x) (h0:0≤m) (h1:m≤1048576):xZ x m:=by
 refine aY bK aU Tryz.func58 (by kernel_rfl) (.call (vI (aQ (cX x.tables) m)) []<| .br (.fin []) (.fin [])) (p:=(x.tables.map aC).length≤9223372036854775807→tM x.tables m∧(((decide ((aQ (cX x.tables) m)<(0:Int)))=true→(-1:Int)=(aQ (bM x) m)∧True)∧((decide ((aQ (cX x.tables) m)<(0:Int)))=false→(aQ (cX x.tables) m)=(aQ (bM x) m)∧True))) (by kernel_rfl) ?_
 intro n0
 simp only [List.length_map] at n0
 obtain ⟨f_version,f_tables⟩:=hf
 have hmx:maxLen=9223372036854775807:=rfl
 refine ⟨aFd x.tables _ (by first | assumption | exact hf) (by omega) (by omega),fun c0=>?_,fun c0=>?_⟩
 ·replace c0:=yq c0
  have y0:=iS c0
  refine ⟨?_,trivial⟩
  ·unfold bM;first | (rw [bI (by omega)];done) | (rw [aO (by omega)];done) | (rw [aO (by omega)];omega)
 ·replace c0:=nq c0
  have y0:=hJ c0
  rw [aO y0] at*
  refine ⟨?_,trivial⟩
  ·unfold bM;first | (rw [bI (by omega)];done) | (rw [aO (by omega)];done) | (rw [aO (by omega)];omega)
abbrev vH (x:aN) (m:Int):Prop:=dG Tryz.prog 127 [.agg [.str x.name,.sl 3 1 (x.src.map intD),.int .i64 x.dst],.one (.int .i64 m)] (vI (aQ (bY x) m)) []
theorem aGH (x:aN) (m:Int) (hf:wL x) (h0:0≤m) (h1:m≤1048576):vH x m:=by
 refine aY bK aU Tryz.func127 (by kernel_rfl) (.br (.fin []) (.call (vI (aQ (bX x.src) (m - ((x.name.size:Nat):Int)))) []<| .br (.fin []) (.fin []))) (p:=(x.src.map intD).length≤9223372036854775807→dB (m - ((x.name.size:Nat):Int))∧(((decide ((m - ((x.name.size:Nat):Int))<(0:Int)))=true→(-1:Int)=(aQ (bY x) m)∧True)∧((decide ((m - ((x.name.size:Nat):Int))<(0:Int)))=false→pV x.src (m - ((x.name.size:Nat):Int))∧(((decide ((aQ (bX x.src) (m - ((x.name.size:Nat):Int)))<(0:Int)))=true→(-1:Int)=(aQ (bY x) m)∧True)∧((decide ((aQ (bX x.src) (m - ((x.name.size:Nat):Int)))<(0:Int)))=false→(aQ (bX x.src) (m - ((x.name.size:Nat):Int)))=(aQ (bY x) m)∧True))))) (by kernel_rfl) ?_
 intro n0
 simp only [List.length_map] at n0
 obtain ⟨f_name,f_src,f_dst⟩:=hf
 have hmx:maxLen=9223372036854775807:=rfl
 have g_name:x.name.size≤maxLen:=f_name
 refine ⟨⟨by omega,by omega⟩,fun c0=>?_,fun c0=>?_⟩
 ·replace c0:=yq c0
  refine ⟨?_,trivial⟩
  ·unfold bY;first | (rw [bI (by omega)];done) | (rw [aO (by omega)];done) | (rw [aO (by omega)];omega)
 ·replace c0:=nq c0
  refine ⟨aBf x.src _ (by first | assumption | exact hf) (by omega) (by omega),fun c1=>?_,fun c1=>?_⟩
  ·replace c1:=yq c1
   have y1:=iS c1
   refine ⟨?_,trivial⟩
   ·unfold bY;first | (rw [bI (by omega)];done) | (rw [aO (by omega)];done) | (rw [aO (by omega)];omega)
  ·replace c1:=nq c1
   have y1:=hJ c1
   rw [aO y1] at*
   refine ⟨?_,trivial⟩
   ·unfold bY;first | (rw [bI (by omega)];done) | (rw [aO (by omega)];done) | (rw [aO (by omega)];omega)
abbrev tN (x:List aN) (m:Int):Prop:=dG Tryz.prog 59 [.one (.sl 168 3 (x.map aJ)),.one (.int .i64 m)] (vI (aQ (bW x) m)) []
theorem aFe (x:List aN) (m:Int) (hf:pG x) (h0:0≤m) (h1:m≤1048576):tN x m:=by
 refine aY bK aU Tryz.func59 (by kernel_rfl) (.len x.length<| .br (.fin []) (.loop (Nat × Int) (Q2 Nat Int) [1,5,12,13,14,15,16,17,18,19,20,21,22,23,24,25] [] (fun yy0=>[(5,vI (yy0.1:Int)),(1,vI yy0.2)]) (fun yy0=>[]) (fun yy0=>yy0.1≤x.length∧yy0.2=m - x.length - (bN bY (x.take yy0.1):Nat)∧0≤yy0.2) (fun yy0=>x.length - yy0.1) (fun yy0=> .len x.length<| .br (.elem _ aJ x (fun e20=> .call (vI (aQ (bY e20) yy0.2)) []<| .br (.fin []) (.back []))) (.fin [])))) (p:=(x.map aJ).length≤9223372036854775807→Lm aJ x∧(dB (m - ((x.length:Nat):Int))∧(((decide ((m - ((x.length:Nat):Int))<(0:Int)))=true→(-1:Int)=(aQ (bW x) m)∧True)∧((decide ((m - ((x.length:Nat):Int))<(0:Int)))=false→(∃(k:Nat) (z:Int),(0:Int)=(k:Int)∧(m - ((x.length:Nat):Int))=z∧k≤x.length∧z=m - x.length - (bN bY (x.take k):Nat)∧0≤z)∧ ∀(k:Nat) (z:Int),(k≤x.length∧z=m - x.length - (bN bY (x.take k):Nat)∧0≤z)→Lm aJ x∧(((decide ((k:Int)<((x.length:Nat):Int)))=true→0≤(k:Int)∧Em aJ x k fun e20=>vH e20 z∧(((decide ((aQ (bY e20) z)<(0:Int)))=true→(-1:Int)=(aQ (bW x) m)∧True)∧((decide ((aQ (bY e20) z)<(0:Int)))=false→dB ((k:Int)+(1:Int))∧ ∃(k' :Nat) (z' :Int),((k:Int)+(1:Int))=(k' :Int)∧(aQ (bY e20) z)=z' ∧(k' ≤x.length∧z' =m - x.length - (bN bY (x.take k'):Nat)∧0≤z')∧x.length - k' <x.length - k)))∧((decide ((k:Int)<((x.length:Nat):Int)))=false→z=(aQ (bW x) m)∧True)))))) (by kernel_rfl) ?_
 intro n0
 simp only [List.length_map] at n0
 have hS:bW x=x.length+bN bY x:=rfl
 refine ⟨List.length_map _,⟨by omega,by omega⟩,fun c0=>?_,fun c0=>?_⟩
 ·replace c0:=yq c0
  refine ⟨?_,trivial⟩
  ·first | (rw [bI (by omega)];done) | (rw [aO (by omega)];done) | (rw [aO (by omega)];omega)
 ·replace c0:=nq c0
  refine ⟨⟨0,m - ((x.length:Nat):Int),rfl,rfl,Nat.zero_le _,by simp [bN],by omega⟩,fun k z ⟨hk,hz,hz0⟩=>?_⟩
  refine ⟨List.length_map _,fun c1=>?_,fun c1=>?_⟩
  ·replace c1:=yq c1
   obtain ⟨y,hy⟩:=cC (l:=x) (k:=k) (by omega)
   have hfy:=hf y (List.mem_of_getElem? hy)
   refine ⟨by omega,rfl,by omega,fun e20 h20=>?_⟩
   obtain rfl:=bA hy h20
   refine ⟨aGH e20 _ (by first | assumption | exact hf) (by omega) (by omega),fun c2=>?_,fun c2=>?_⟩
   ·replace c2:=yq c2
    have y3:=iS c2
    have y4:=cW bY ‹x[k]? =some _›
    have y5:=fG bY x (k+1)
    refine ⟨?_,trivial⟩
    ·first | (rw [bI (by omega)];done) | (rw [aO (by omega)];done) | (rw [aO (by omega)];omega)
   ·replace c2:=nq c2
    have y2:=aO (hJ c2)
    have y3:=hJ c2
    have y4:=cW bY ‹x[k]? =some _›
    refine ⟨⟨by omega,by omega⟩,?_⟩
    exact ⟨k+1,aQ (bY e20) z,rfl,rfl,⟨by omega,by rw [y2,y4,hz];omega,by rw [y2];omega⟩,by omega⟩
  ·replace c1:=nq c1
   have y6:k=x.length:=by omega
   rw [y6,List.take_length] at hz
   refine ⟨?_,trivial⟩
   ·first | (rw [bI (by omega)];done) | (rw [aO (by omega)];done) | (rw [aO (by omega)];omega)
abbrev yA (x:aL) (m:Int):Prop:=dG Tryz.prog 128 [.agg [.str x.name,.int .i64 x.column,.str x.into,.int .i64 x.intoColumn],.one (.int .i64 m)] (vI (aQ (cH x) m)) []
theorem aHy (x:aL) (m:Int) (hf:aAF x) (h0:0≤m) (h1:m≤1048576):yA x m:=by
 refine aY bK aU Tryz.func128 (by kernel_rfl) (.br (.fin []) (.br (.fin []) (.fin []))) (p:=dB (m - ((x.name.size:Nat):Int))∧(((decide ((m - ((x.name.size:Nat):Int))<(0:Int)))=true→(-1:Int)=(aQ (cH x) m)∧True)∧((decide ((m - ((x.name.size:Nat):Int))<(0:Int)))=false→dB ((m - ((x.name.size:Nat):Int)) - ((x.into.size:Nat):Int))∧(((decide (((m - ((x.name.size:Nat):Int)) - ((x.into.size:Nat):Int))<(0:Int)))=true→(-1:Int)=(aQ (cH x) m)∧True)∧((decide (((m - ((x.name.size:Nat):Int)) - ((x.into.size:Nat):Int))<(0:Int)))=false→((m - ((x.name.size:Nat):Int)) - ((x.into.size:Nat):Int))=(aQ (cH x) m)∧True))))) (by kernel_rfl) ?_
 obtain ⟨f_name,f_column,f_into,f_intoColumn⟩:=hf
 have hmx:maxLen=9223372036854775807:=rfl
 have g_name:x.name.size≤maxLen:=f_name
 have g_into:x.into.size≤maxLen:=f_into
 refine ⟨⟨by omega,by omega⟩,fun c0=>?_,fun c0=>?_⟩
 ·replace c0:=yq c0
  refine ⟨?_,trivial⟩
  ·unfold cH;first | (rw [bI (by omega)];done) | (rw [aO (by omega)];done) | (rw [aO (by omega)];omega)
 ·replace c0:=nq c0
  refine ⟨⟨by omega,by omega⟩,fun c1=>?_,fun c1=>?_⟩
  ·replace c1:=yq c1
   refine ⟨?_,trivial⟩
   ·unfold cH;first | (rw [bI (by omega)];done) | (rw [aO (by omega)];done) | (rw [aO (by omega)];omega)
  ·replace c1:=nq c1
   refine ⟨?_,trivial⟩
   ·unfold cH;first | (rw [bI (by omega)];done) | (rw [aO (by omega)];done) | (rw [aO (by omega)];omega)
abbrev vJ (x:List aL) (m:Int):Prop:=dG Tryz.prog 60 [.one (.sl 170 4 (x.map aM)),.one (.int .i64 m)] (vI (aQ (cV x) m)) []
theorem aGI (x:List aL) (m:Int) (hf:rK x) (h0:0≤m) (h1:m≤1048576):vJ x m:=by
 refine aY bK aU Tryz.func60 (by kernel_rfl) (.len x.length<| .br (.fin []) (.loop (Nat × Int) (Q2 Nat Int) [1,5,12,13,14,15,16,17,18,19,20,21,22,23,24,25] [] (fun yy0=>[(5,vI (yy0.1:Int)),(1,vI yy0.2)]) (fun yy0=>[]) (fun yy0=>yy0.1≤x.length∧yy0.2=m - x.length - (bN cH (x.take yy0.1):Nat)∧0≤yy0.2) (fun yy0=>x.length - yy0.1) (fun yy0=> .len x.length<| .br (.elem _ aM x (fun e20=> .call (vI (aQ (cH e20) yy0.2)) []<| .br (.fin []) (.back []))) (.fin [])))) (p:=(x.map aM).length≤9223372036854775807→Lm aM x∧(dB (m - ((x.length:Nat):Int))∧(((decide ((m - ((x.length:Nat):Int))<(0:Int)))=true→(-1:Int)=(aQ (cV x) m)∧True)∧((decide ((m - ((x.length:Nat):Int))<(0:Int)))=false→(∃(k:Nat) (z:Int),(0:Int)=(k:Int)∧(m - ((x.length:Nat):Int))=z∧k≤x.length∧z=m - x.length - (bN cH (x.take k):Nat)∧0≤z)∧ ∀(k:Nat) (z:Int),(k≤x.length∧z=m - x.length - (bN cH (x.take k):Nat)∧0≤z)→Lm aM x∧(((decide ((k:Int)<((x.length:Nat):Int)))=true→0≤(k:Int)∧Em aM x k fun e20=>yA e20 z∧(((decide ((aQ (cH e20) z)<(0:Int)))=true→(-1:Int)=(aQ (cV x) m)∧True)∧((decide ((aQ (cH e20) z)<(0:Int)))=false→dB ((k:Int)+(1:Int))∧ ∃(k' :Nat) (z' :Int),((k:Int)+(1:Int))=(k' :Int)∧(aQ (cH e20) z)=z' ∧(k' ≤x.length∧z' =m - x.length - (bN cH (x.take k'):Nat)∧0≤z')∧x.length - k' <x.length - k)))∧((decide ((k:Int)<((x.length:Nat):Int)))=false→z=(aQ (cV x) m)∧True)))))) (by kernel_rfl) ?_
 intro n0
 simp only [List.length_map] at n0
 have hS:cV x=x.length+bN cH x:=rfl
 refine ⟨List.length_map _,⟨by omega,by omega⟩,fun c0=>?_,fun c0=>?_⟩
 ·replace c0:=yq c0
  refine ⟨?_,trivial⟩
  ·first | (rw [bI (by omega)];done) | (rw [aO (by omega)];done) | (rw [aO (by omega)];omega)
 ·replace c0:=nq c0
  refine ⟨⟨0,m - ((x.length:Nat):Int),rfl,rfl,Nat.zero_le _,by simp [bN],by omega⟩,fun k z ⟨hk,hz,hz0⟩=>?_⟩
  refine ⟨List.length_map _,fun c1=>?_,fun c1=>?_⟩
  ·replace c1:=yq c1
   obtain ⟨y,hy⟩:=cC (l:=x) (k:=k) (by omega)
   have hfy:=hf y (List.mem_of_getElem? hy)
   refine ⟨by omega,rfl,by omega,fun e20 h20=>?_⟩
   obtain rfl:=bA hy h20
   refine ⟨aHy e20 _ (by first | assumption | exact hf) (by omega) (by omega),fun c2=>?_,fun c2=>?_⟩
   ·replace c2:=yq c2
    have y3:=iS c2
    have y4:=cW cH ‹x[k]? =some _›
    have y5:=fG cH x (k+1)
    refine ⟨?_,trivial⟩
    ·first | (rw [bI (by omega)];done) | (rw [aO (by omega)];done) | (rw [aO (by omega)];omega)
   ·replace c2:=nq c2
    have y2:=aO (hJ c2)
    have y3:=hJ c2
    have y4:=cW cH ‹x[k]? =some _›
    refine ⟨⟨by omega,by omega⟩,?_⟩
    exact ⟨k+1,aQ (cH e20) z,rfl,rfl,⟨by omega,by rw [y2,y4,hz];omega,by rw [y2];omega⟩,by omega⟩
  ·replace c1:=nq c1
   have y6:k=x.length:=by omega
   rw [y6,List.take_length] at hz
   refine ⟨?_,trivial⟩
   ·first | (rw [bI (by omega)];done) | (rw [aO (by omega)];done) | (rw [aO (by omega)];omega)
abbrev aFf (x:StoreD) (m:Int):Prop:=dG Tryz.prog 13 [.agg [.sl 162 3 (x.database.tables.map aP),.int .i64 x.catalogue.version,.sl 121 4 (x.catalogue.tables.map aC),.sl 168 3 (x.dependencies.map aJ),.sl 170 4 (x.inclusions.map aM)],.one (.int .i64 m)] (vI (aQ (eD x) m)) []
theorem aOq (x:StoreD) (m:Int) (hf:aKG x) (h0:0≤m) (h1:m≤1048576):aFf x m:=by
 refine aY bK aU Tryz.func13 (by kernel_rfl) (.call (vI (aQ (bF x.database) m)) []<| .br (.fin []) (.call (vI (aQ (bM x.catalogue) (aQ (bF x.database) m))) []<| .br (.fin []) (.call (vI (aQ (bW x.dependencies) (aQ (bM x.catalogue) (aQ (bF x.database) m)))) []<| .br (.fin []) (.call (vI (aQ (cV x.inclusions) (aQ (bW x.dependencies) (aQ (bM x.catalogue) (aQ (bF x.database) m))))) []<| .br (.fin []) (.fin []))))) (p:=(x.database.tables.map aP).length≤9223372036854775807→(x.catalogue.tables.map aC).length≤9223372036854775807→(x.dependencies.map aJ).length≤9223372036854775807→(x.inclusions.map aM).length≤9223372036854775807→zS x.database m∧(((decide ((aQ (bF x.database) m)<(0:Int)))=true→(-1:Int)=(aQ (eD x) m)∧True)∧((decide ((aQ (bF x.database) m)<(0:Int)))=false→xZ x.catalogue (aQ (bF x.database) m)∧(((decide ((aQ (bM x.catalogue) (aQ (bF x.database) m))<(0:Int)))=true→(-1:Int)=(aQ (eD x) m)∧True)∧((decide ((aQ (bM x.catalogue) (aQ (bF x.database) m))<(0:Int)))=false→tN x.dependencies (aQ (bM x.catalogue) (aQ (bF x.database) m))∧(((decide ((aQ (bW x.dependencies) (aQ (bM x.catalogue) (aQ (bF x.database) m)))<(0:Int)))=true→(-1:Int)=(aQ (eD x) m)∧True)∧((decide ((aQ (bW x.dependencies) (aQ (bM x.catalogue) (aQ (bF x.database) m)))<(0:Int)))=false→vJ x.inclusions (aQ (bW x.dependencies) (aQ (bM x.catalogue) (aQ (bF x.database) m)))∧(((decide ((aQ (cV x.inclusions) (aQ (bW x.dependencies) (aQ (bM x.catalogue) (aQ (bF x.database) m))))<(0:Int)))=true→(-1:Int)=(aQ (eD x) m)∧True)∧((decide ((aQ (cV x.inclusions) (aQ (bW x.dependencies) (aQ (bM x.catalogue) (aQ (bF x.database) m))))<(0:Int)))=false→(aQ (cV x.inclusions) (aQ (bW x.dependencies) (aQ (bM x.catalogue) (aQ (bF x.database) m))))=(aQ (eD x) m)∧True))))))))) (by kernel_rfl) ?_
 intro n0 n1 n2 n3
 simp only [List.length_map] at n0 n1 n2 n3
 obtain ⟨f_database,f_catalogue,f_dependencies,f_inclusions⟩:=hf
 have hmx:maxLen=9223372036854775807:=rfl
 refine ⟨aJb x.database _ (by first | assumption | exact hf) (by omega) (by omega),fun c0=>?_,fun c0=>?_⟩
 ·replace c0:=yq c0
  have y0:=iS c0
  refine ⟨?_,trivial⟩
  ·unfold eD;first | (rw [bI (by omega)];done) | (rw [aO (by omega)];done) | (rw [aO (by omega)];omega)
 ·replace c0:=nq c0
  have y0:=hJ c0
  rw [aO y0] at*
  refine ⟨aHx x.catalogue _ (by first | assumption | exact hf) (by omega) (by omega),fun c1=>?_,fun c1=>?_⟩
  ·replace c1:=yq c1
   have y1:=iS c1
   refine ⟨?_,trivial⟩
   ·unfold eD;first | (rw [bI (by omega)];done) | (rw [aO (by omega)];done) | (rw [aO (by omega)];omega)
  ·replace c1:=nq c1
   have y1:=hJ c1
   rw [aO y1] at*
   refine ⟨aFe x.dependencies _ (by first | assumption | exact hf) (by omega) (by omega),fun c2=>?_,fun c2=>?_⟩
   ·replace c2:=yq c2
    have y2:=iS c2
    refine ⟨?_,trivial⟩
    ·unfold eD;first | (rw [bI (by omega)];done) | (rw [aO (by omega)];done) | (rw [aO (by omega)];omega)
   ·replace c2:=nq c2
    have y2:=hJ c2
    rw [aO y2] at*
    refine ⟨aGI x.inclusions _ (by first | assumption | exact hf) (by omega) (by omega),fun c3=>?_,fun c3=>?_⟩
    ·replace c3:=yq c3
     have y3:=iS c3
     refine ⟨?_,trivial⟩
     ·unfold eD;first | (rw [bI (by omega)];done) | (rw [aO (by omega)];done) | (rw [aO (by omega)];omega)
    ·replace c3:=nq c3
     have y3:=hJ c3
     rw [aO y3] at*
     refine ⟨?_,trivial⟩
     ·unfold eD;first | (rw [bI (by omega)];done) | (rw [aO (by omega)];done) | (rw [aO (by omega)];omega)
abbrev aHN (x:bR) (m:Int):Prop:=dG Tryz.prog 164 [.agg [.str x.name,.sl 3 1 (x.vars.map intD)],.one (.int .i64 m)] (vI (aQ (fY x) m)) []
theorem aPx (x:bR) (m:Int) (hf:aNr x) (h0:0≤m) (h1:m≤1048576):aHN x m:=by
 refine aY bK aU Tryz.func164 (by kernel_rfl) (.br (.fin []) (.call (vI (aQ (bX x.vars) (m - ((x.name.size:Nat):Int)))) []<| .br (.fin []) (.fin []))) (p:=(x.vars.map intD).length≤9223372036854775807→dB (m - ((x.name.size:Nat):Int))∧(((decide ((m - ((x.name.size:Nat):Int))<(0:Int)))=true→(-1:Int)=(aQ (fY x) m)∧True)∧((decide ((m - ((x.name.size:Nat):Int))<(0:Int)))=false→pV x.vars (m - ((x.name.size:Nat):Int))∧(((decide ((aQ (bX x.vars) (m - ((x.name.size:Nat):Int)))<(0:Int)))=true→(-1:Int)=(aQ (fY x) m)∧True)∧((decide ((aQ (bX x.vars) (m - ((x.name.size:Nat):Int)))<(0:Int)))=false→(aQ (bX x.vars) (m - ((x.name.size:Nat):Int)))=(aQ (fY x) m)∧True))))) (by kernel_rfl) ?_
 intro n0
 simp only [List.length_map] at n0
 obtain ⟨f_name,f_vars⟩:=hf
 have hmx:maxLen=9223372036854775807:=rfl
 have g_name:x.name.size≤maxLen:=f_name
 refine ⟨⟨by omega,by omega⟩,fun c0=>?_,fun c0=>?_⟩
 ·replace c0:=yq c0
  refine ⟨?_,trivial⟩
  ·unfold fY;first | (rw [bI (by omega)];done) | (rw [aO (by omega)];done) | (rw [aO (by omega)];omega)
 ·replace c0:=nq c0
  refine ⟨aBf x.vars _ (by first | assumption | exact hf) (by omega) (by omega),fun c1=>?_,fun c1=>?_⟩
  ·replace c1:=yq c1
   have y1:=iS c1
   refine ⟨?_,trivial⟩
   ·unfold fY;first | (rw [bI (by omega)];done) | (rw [aO (by omega)];done) | (rw [aO (by omega)];omega)
  ·replace c1:=nq c1
   have y1:=hJ c1
   rw [aO y1] at*
   refine ⟨?_,trivial⟩
   ·unfold fY;first | (rw [bI (by omega)];done) | (rw [aO (by omega)];done) | (rw [aO (by omega)];omega)
abbrev aFg (x:List bR) (m:Int):Prop:=dG Tryz.prog 90 [.one (.sl 131 2 (x.map bC)),.one (.int .i64 m)] (vI (aQ (jF x) m)) []
theorem aOr (x:List bR) (m:Int) (hf:aHb x) (h0:0≤m) (h1:m≤1048576):aFg x m:=by
 refine aY bK aU Tryz.func90 (by kernel_rfl) (.len x.length<| .br (.fin []) (.loop (Nat × Int) (Q2 Nat Int) [1,5,12,13,14,15,16,17,18,19,20,21,22,23,24,25] [] (fun yy0=>[(5,vI (yy0.1:Int)),(1,vI yy0.2)]) (fun yy0=>[]) (fun yy0=>yy0.1≤x.length∧yy0.2=m - x.length - (bN fY (x.take yy0.1):Nat)∧0≤yy0.2) (fun yy0=>x.length - yy0.1) (fun yy0=> .len x.length<| .br (.elem _ bC x (fun e20=> .call (vI (aQ (fY e20) yy0.2)) []<| .br (.fin []) (.back []))) (.fin [])))) (p:=(x.map bC).length≤9223372036854775807→Lm bC x∧(dB (m - ((x.length:Nat):Int))∧(((decide ((m - ((x.length:Nat):Int))<(0:Int)))=true→(-1:Int)=(aQ (jF x) m)∧True)∧((decide ((m - ((x.length:Nat):Int))<(0:Int)))=false→(∃(k:Nat) (z:Int),(0:Int)=(k:Int)∧(m - ((x.length:Nat):Int))=z∧k≤x.length∧z=m - x.length - (bN fY (x.take k):Nat)∧0≤z)∧ ∀(k:Nat) (z:Int),(k≤x.length∧z=m - x.length - (bN fY (x.take k):Nat)∧0≤z)→Lm bC x∧(((decide ((k:Int)<((x.length:Nat):Int)))=true→0≤(k:Int)∧Em bC x k fun e20=>aHN e20 z∧(((decide ((aQ (fY e20) z)<(0:Int)))=true→(-1:Int)=(aQ (jF x) m)∧True)∧((decide ((aQ (fY e20) z)<(0:Int)))=false→dB ((k:Int)+(1:Int))∧ ∃(k' :Nat) (z' :Int),((k:Int)+(1:Int))=(k' :Int)∧(aQ (fY e20) z)=z' ∧(k' ≤x.length∧z' =m - x.length - (bN fY (x.take k'):Nat)∧0≤z')∧x.length - k' <x.length - k)))∧((decide ((k:Int)<((x.length:Nat):Int)))=false→z=(aQ (jF x) m)∧True)))))) (by kernel_rfl) ?_
 intro n0
 simp only [List.length_map] at n0
 have hS:jF x=x.length+bN fY x:=rfl
 refine ⟨List.length_map _,⟨by omega,by omega⟩,fun c0=>?_,fun c0=>?_⟩
 ·replace c0:=yq c0
  refine ⟨?_,trivial⟩
  ·first | (rw [bI (by omega)];done) | (rw [aO (by omega)];done) | (rw [aO (by omega)];omega)
 ·replace c0:=nq c0
  refine ⟨⟨0,m - ((x.length:Nat):Int),rfl,rfl,Nat.zero_le _,by simp [bN],by omega⟩,fun k z ⟨hk,hz,hz0⟩=>?_⟩
  refine ⟨List.length_map _,fun c1=>?_,fun c1=>?_⟩
  ·replace c1:=yq c1
   obtain ⟨y,hy⟩:=cC (l:=x) (k:=k) (by omega)
   have hfy:=hf y (List.mem_of_getElem? hy)
   refine ⟨by omega,rfl,by omega,fun e20 h20=>?_⟩
   obtain rfl:=bA hy h20
   refine ⟨aPx e20 _ (by first | assumption | exact hf) (by omega) (by omega),fun c2=>?_,fun c2=>?_⟩
   ·replace c2:=yq c2
    have y3:=iS c2
    have y4:=cW fY ‹x[k]? =some _›
    have y5:=fG fY x (k+1)
    refine ⟨?_,trivial⟩
    ·first | (rw [bI (by omega)];done) | (rw [aO (by omega)];done) | (rw [aO (by omega)];omega)
   ·replace c2:=nq c2
    have y2:=aO (hJ c2)
    have y3:=hJ c2
    have y4:=cW fY ‹x[k]? =some _›
    refine ⟨⟨by omega,by omega⟩,?_⟩
    exact ⟨k+1,aQ (fY e20) z,rfl,rfl,⟨by omega,by rw [y2,y4,hz];omega,by rw [y2];omega⟩,by omega⟩
  ·replace c1:=nq c1
   have y6:k=x.length:=by omega
   rw [y6,List.take_length] at hz
   refine ⟨?_,trivial⟩
   ·first | (rw [bI (by omega)];done) | (rw [aO (by omega)];done) | (rw [aO (by omega)];omega)
abbrev aFh (x:QueryD) (m:Int):Prop:=dG Tryz.prog 30 [.agg [.int .i64 x.variableCount,.sl 131 2 (x.atoms.map bC)],.one (.int .i64 m)] (vI (aQ (jY x) m)) []
theorem aOs (x:QueryD) (m:Int) (hf:aKE x) (h0:0≤m) (h1:m≤1048576):aFh x m:=by
 refine aY bK aU Tryz.func30 (by kernel_rfl) (.call (vI (aQ (jF x.atoms) m)) []<| .br (.fin []) (.fin [])) (p:=(x.atoms.map bC).length≤9223372036854775807→aFg x.atoms m∧(((decide ((aQ (jF x.atoms) m)<(0:Int)))=true→(-1:Int)=(aQ (jY x) m)∧True)∧((decide ((aQ (jF x.atoms) m)<(0:Int)))=false→(aQ (jF x.atoms) m)=(aQ (jY x) m)∧True))) (by kernel_rfl) ?_
 intro n0
 simp only [List.length_map] at n0
 obtain ⟨f_variableCount,f_atoms⟩:=hf
 have hmx:maxLen=9223372036854775807:=rfl
 refine ⟨aOr x.atoms _ (by first | assumption | exact hf) (by omega) (by omega),fun c0=>?_,fun c0=>?_⟩
 ·replace c0:=yq c0
  have y0:=iS c0
  refine ⟨?_,trivial⟩
  ·unfold jY;first | (rw [bI (by omega)];done) | (rw [aO (by omega)];done) | (rw [aO (by omega)];omega)
 ·replace c0:=nq c0
  have y0:=hJ c0
  rw [aO y0] at*
  refine ⟨?_,trivial⟩
  ·unfold jY;first | (rw [bI (by omega)];done) | (rw [aO (by omega)];done) | (rw [aO (by omega)];omega)
end Go.Proofs.YtokkjaflmcjlhaaGreat
