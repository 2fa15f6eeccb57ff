/-
  Contracts and plain laws, joined: part 20.
-/
import Derived.Test.YtokkjaflmcjlhaaGreatQU3
namespace Go.Proofs.YtokkjaflmcjlhaaGreat
open Go.ChangeShapes Go.WideShapes Go.ChangeAt Go.RowKit
set_option linter.unusedVariables false
set_option linter.unusedSimpArgs false
set_option maxRecDepth 100000
set_option maxHeartbeats 4000000
abbrev pP (x:List Int) (m:Int):Prop:=dJ Tryz.prog 61 [.one (.sl 3 1 (x.map intD)),.one (.int .i64 m)] (vI (aQ (bZ x) m)) []
theorem aBO (x:List Int) (m:Int) (hf:aCC x) (h0:0≤m) (h1:m≤1048576):pP x m:=by
 refine aZ bR aT Tryz.func61 (by kernel_rfl) (.len x.length<| .br (.fin []) (.fin [])) (p:=(x.map intD).length≤9223372036854775807→Lm intD x∧(dO (m - ((x.length:Nat):Int))∧(((decide ((m - ((x.length:Nat):Int))<(0:Int)))=true→(-1:Int)=(aQ (bZ x) m)∧True)∧((decide ((m - ((x.length:Nat):Int))<(0:Int)))=false→(m - ((x.length:Nat):Int))=(aQ (bZ x) m)∧True)))) (by kernel_rfl) ?_
 intro n0
 simp only [List.length_map] at n0
 refine ⟨List.length_map _,⟨by omega,by omega⟩,fun c0=>?_,fun c0=>?_⟩
 ·replace c0:=yq c0
  refine ⟨?_,trivial⟩
  ·unfold bZ;first | (rw [bN (by omega)];done) | (rw [aO (by omega)];done)
 ·replace c0:=nq c0
  refine ⟨?_,trivial⟩
  ·unfold bZ;first | (rw [bN (by omega)];done) | (rw [aO (by omega)];done)
abbrev aAR (x:List (List Int)) (m:Int):Prop:=dJ Tryz.prog 256 [.one (.sl 32 1 (x.map aF)),.one (.int .i64 m)] (vI (aQ (cP x) m)) []
theorem aI5 (x:List (List Int)) (m:Int) (hf:aDb x) (h0:0≤m) (h1:m≤1048576):aAR x m:=by
 refine aZ bR aT Tryz.func256 (by kernel_rfl) (.len x.length<| .br (.fin []) (.loop (Nat × Int) (Q2 Nat Int) [1,5,12,13,14,15,16,17,18,19,20,21,22,23,24,25] [] (fun yy0=>[(5,vI (yy0.1:Int)),(1,vI yy0.2)]) (fun yy0=>[]) (fun yy0=>yy0.1≤x.length∧yy0.2=m - x.length - (bB bZ (x.take yy0.1):Nat)∧0≤yy0.2) (fun yy0=>x.length - yy0.1) (fun yy0=> .len x.length<| .br (.elem _ aF x (fun e20=> .call (vI (aQ (bZ e20) yy0.2)) []<| .br (.fin []) (.back []))) (.fin [])))) (p:=(x.map aF).length≤9223372036854775807→Lm aF x∧(dO (m - ((x.length:Nat):Int))∧(((decide ((m - ((x.length:Nat):Int))<(0:Int)))=true→(-1:Int)=(aQ (cP x) m)∧True)∧((decide ((m - ((x.length:Nat):Int))<(0:Int)))=false→(∃(k:Nat) (z:Int),(0:Int)=(k:Int)∧(m - ((x.length:Nat):Int))=z∧k≤x.length∧z=m - x.length - (bB bZ (x.take k):Nat)∧0≤z)∧ ∀(k:Nat) (z:Int),(k≤x.length∧z=m - x.length - (bB bZ (x.take k):Nat)∧0≤z)→Lm aF x∧(((decide ((k:Int)<((x.length:Nat):Int)))=true→0≤(k:Int)∧Em aF x k fun e20=>pP e20 z∧(((decide ((aQ (bZ e20) z)<(0:Int)))=true→(-1:Int)=(aQ (cP x) m)∧True)∧((decide ((aQ (bZ e20) z)<(0:Int)))=false→dO ((k:Int)+(1:Int))∧ ∃(k' :Nat) (z' :Int),((k:Int)+(1:Int))=(k' :Int)∧(aQ (bZ e20) z)=z' ∧(k' ≤x.length∧z' =m - x.length - (bB bZ (x.take k'):Nat)∧0≤z')∧x.length - k' <x.length - k)))∧((decide ((k:Int)<((x.length:Nat):Int)))=false→z=(aQ (cP x) m)∧True)))))) (by kernel_rfl) ?_
 intro n0
 simp only [List.length_map] at n0
 have hS:cP x=x.length+bB bZ x:=rfl
 refine ⟨List.length_map _,⟨by omega,by omega⟩,fun c0=>?_,fun c0=>?_⟩
 ·replace c0:=yq c0
  refine ⟨?_,trivial⟩
  ·first | (rw [bN (by omega)];done) | (rw [aO (by omega)];done) | (rw [aO (by omega)];omega)
 ·replace c0:=nq c0
  refine ⟨⟨0,m - ((x.length:Nat):Int),rfl,rfl,Nat.zero_le _,by simp [bB],by omega⟩,fun k z ⟨hk,hz,hz0⟩=>?_⟩
  refine ⟨List.length_map _,fun c1=>?_,fun c1=>?_⟩
  ·replace c1:=yq c1
   obtain ⟨y,hy⟩:=cE (l:=x) (k:=k) (by omega)
   have hfy:=hf y (List.mem_of_getElem? hy)
   refine ⟨by omega,rfl,by omega,fun e20 h20=>?_⟩
   obtain rfl:=aV hy h20
   refine ⟨aBO e20 _ (by first | assumption | exact hf) (by omega) (by omega),fun c2=>?_,fun c2=>?_⟩
   ·replace c2:=yq c2
    have y3:=iV c2
    have y4:=bX bZ ‹x[k]? =some _›
    have y5:=dX bZ x (k+1)
    refine ⟨?_,trivial⟩
    ·first | (rw [bN (by omega)];done) | (rw [aO (by omega)];done) | (rw [aO (by omega)];omega)
   ·replace c2:=nq c2
    have y2:=aO (iG c2)
    have y3:=iG c2
    have y4:=bX bZ ‹x[k]? =some _›
    refine ⟨⟨by omega,by omega⟩,?_⟩
    exact ⟨k+1,aQ (bZ e20) z,rfl,rfl,⟨by omega,by rw [y2,y4,hz];omega,by rw [y2];omega⟩,by omega⟩
  ·replace c1:=nq c1
   have y6:k=x.length:=by omega
   rw [y6,List.take_length] at hz
   refine ⟨?_,trivial⟩
   ·first | (rw [bN (by omega)];done) | (rw [aO (by omega)];done) | (rw [aO (by omega)];omega)
abbrev aE9 (x:aN) (m:Int):Prop:=dJ Tryz.prog 202 [.agg [.str x.name,.int .i64 x.arity,.sl 32 1 (x.rows.map aF)],.one (.int .i64 m)] (vI (aQ (dF x) m)) []
theorem aNK (x:aN) (m:Int) (hf:aIz x) (h0:0≤m) (h1:m≤1048576):aE9 x m:=by
 refine aZ bR aT Tryz.func202 (by kernel_rfl) (.br (.fin []) (.call (vI (aQ (cP x.rows) (m - ((x.name.size:Nat):Int)))) []<| .br (.fin []) (.fin []))) (p:=(x.rows.map aF).length≤9223372036854775807→dO (m - ((x.name.size:Nat):Int))∧(((decide ((m - ((x.name.size:Nat):Int))<(0:Int)))=true→(-1:Int)=(aQ (dF x) m)∧True)∧((decide ((m - ((x.name.size:Nat):Int))<(0:Int)))=false→aAR x.rows (m - ((x.name.size:Nat):Int))∧(((decide ((aQ (cP x.rows) (m - ((x.name.size:Nat):Int)))<(0:Int)))=true→(-1:Int)=(aQ (dF x) m)∧True)∧((decide ((aQ (cP x.rows) (m - ((x.name.size:Nat):Int)))<(0:Int)))=false→(aQ (cP x.rows) (m - ((x.name.size:Nat):Int)))=(aQ (dF x) m)∧True))))) (by kernel_rfl) ?_
 intro n0
 simp only [List.length_map] at n0
 obtain ⟨f_name,f_arity,f_rows⟩:=hf
 have hmx:maxLen=9223372036854775807:=rfl
 have g_name:x.name.size≤maxLen:=f_name
 refine ⟨⟨by omega,by omega⟩,fun c0=>?_,fun c0=>?_⟩
 ·replace c0:=yq c0
  refine ⟨?_,trivial⟩
  ·unfold dF;first | (rw [bN (by omega)];done) | (rw [aO (by omega)];done) | (rw [aO (by omega)];omega)
 ·replace c0:=nq c0
  refine ⟨aI5 x.rows _ (by first | assumption | exact hf) (by omega) (by omega),fun c1=>?_,fun c1=>?_⟩
  ·replace c1:=yq c1
   have y1:=iV c1
   refine ⟨?_,trivial⟩
   ·unfold dF;first | (rw [bN (by omega)];done) | (rw [aO (by omega)];done) | (rw [aO (by omega)];omega)
  ·replace c1:=nq c1
   have y1:=iG c1
   rw [aO y1] at*
   refine ⟨?_,trivial⟩
   ·unfold dF;first | (rw [bN (by omega)];done) | (rw [aO (by omega)];done) | (rw [aO (by omega)];omega)
abbrev aC6 (x:List aN) (m:Int):Prop:=dJ Tryz.prog 125 [.one (.sl 162 3 (x.map aD)),.one (.int .i64 m)] (vI (aQ (eW x) m)) []
theorem aLT (x:List aN) (m:Int) (hf:aCr x) (h0:0≤m) (h1:m≤1048576):aC6 x m:=by
 refine aZ bR aT Tryz.func125 (by kernel_rfl) (.len x.length<| .br (.fin []) (.loop (Nat × Int) (Q2 Nat Int) [1,5,12,13,14,15,16,17,18,19,20,21,22,23,24,25] [] (fun yy0=>[(5,vI (yy0.1:Int)),(1,vI yy0.2)]) (fun yy0=>[]) (fun yy0=>yy0.1≤x.length∧yy0.2=m - x.length - (bB dF (x.take yy0.1):Nat)∧0≤yy0.2) (fun yy0=>x.length - yy0.1) (fun yy0=> .len x.length<| .br (.elem _ aD x (fun e20=> .call (vI (aQ (dF e20) yy0.2)) []<| .br (.fin []) (.back []))) (.fin [])))) (p:=(x.map aD).length≤9223372036854775807→Lm aD x∧(dO (m - ((x.length:Nat):Int))∧(((decide ((m - ((x.length:Nat):Int))<(0:Int)))=true→(-1:Int)=(aQ (eW x) m)∧True)∧((decide ((m - ((x.length:Nat):Int))<(0:Int)))=false→(∃(k:Nat) (z:Int),(0:Int)=(k:Int)∧(m - ((x.length:Nat):Int))=z∧k≤x.length∧z=m - x.length - (bB dF (x.take k):Nat)∧0≤z)∧ ∀(k:Nat) (z:Int),(k≤x.length∧z=m - x.length - (bB dF (x.take k):Nat)∧0≤z)→Lm aD x∧(((decide ((k:Int)<((x.length:Nat):Int)))=true→0≤(k:Int)∧Em aD x k fun e20=>aE9 e20 z∧(((decide ((aQ (dF e20) z)<(0:Int)))=true→(-1:Int)=(aQ (eW x) m)∧True)∧((decide ((aQ (dF e20) z)<(0:Int)))=false→dO ((k:Int)+(1:Int))∧ ∃(k' :Nat) (z' :Int),((k:Int)+(1:Int))=(k' :Int)∧(aQ (dF e20) z)=z' ∧(k' ≤x.length∧z' =m - x.length - (bB dF (x.take k'):Nat)∧0≤z')∧x.length - k' <x.length - k)))∧((decide ((k:Int)<((x.length:Nat):Int)))=false→z=(aQ (eW x) m)∧True)))))) (by kernel_rfl) ?_
 intro n0
 simp only [List.length_map] at n0
 have hS:eW x=x.length+bB dF x:=rfl
 refine ⟨List.length_map _,⟨by omega,by omega⟩,fun c0=>?_,fun c0=>?_⟩
 ·replace c0:=yq c0
  refine ⟨?_,trivial⟩
  ·first | (rw [bN (by omega)];done) | (rw [aO (by omega)];done) | (rw [aO (by omega)];omega)
 ·replace c0:=nq c0
  refine ⟨⟨0,m - ((x.length:Nat):Int),rfl,rfl,Nat.zero_le _,by simp [bB],by omega⟩,fun k z ⟨hk,hz,hz0⟩=>?_⟩
  refine ⟨List.length_map _,fun c1=>?_,fun c1=>?_⟩
  ·replace c1:=yq c1
   obtain ⟨y,hy⟩:=cE (l:=x) (k:=k) (by omega)
   have hfy:=hf y (List.mem_of_getElem? hy)
   refine ⟨by omega,rfl,by omega,fun e20 h20=>?_⟩
   obtain rfl:=aV hy h20
   refine ⟨aNK e20 _ (by first | assumption | exact hf) (by omega) (by omega),fun c2=>?_,fun c2=>?_⟩
   ·replace c2:=yq c2
    have y3:=iV c2
    have y4:=bX dF ‹x[k]? =some _›
    have y5:=dX dF x (k+1)
    refine ⟨?_,trivial⟩
    ·first | (rw [bN (by omega)];done) | (rw [aO (by omega)];done) | (rw [aO (by omega)];omega)
   ·replace c2:=nq c2
    have y2:=aO (iG c2)
    have y3:=iG c2
    have y4:=bX dF ‹x[k]? =some _›
    refine ⟨⟨by omega,by omega⟩,?_⟩
    exact ⟨k+1,aQ (dF e20) z,rfl,rfl,⟨by omega,by rw [y2,y4,hz];omega,by rw [y2];omega⟩,by omega⟩
  ·replace c1:=nq c1
   have y6:k=x.length:=by omega
   rw [y6,List.take_length] at hz
   refine ⟨?_,trivial⟩
   ·first | (rw [bN (by omega)];done) | (rw [aO (by omega)];done) | (rw [aO (by omega)];omega)
abbrev yU (x:aP) (m:Int):Prop:=dJ Tryz.prog 57 [.agg [.sl 162 3 (x.tables.map aD)],.one (.int .i64 m)] (vI (aQ (aW x) m)) []
theorem aI6 (x:aP) (m:Int) (hf:aBa x) (h0:0≤m) (h1:m≤1048576):yU x m:=by
 refine aZ bR aT Tryz.func57 (by kernel_rfl) (.call (vI (aQ (eW x.tables) m)) []<| .br (.fin []) (.fin [])) (p:=(x.tables.map aD).length≤9223372036854775807→aC6 x.tables m∧(((decide ((aQ (eW x.tables) m)<(0:Int)))=true→(-1:Int)=(aQ (aW x) m)∧True)∧((decide ((aQ (eW x.tables) m)<(0:Int)))=false→(aQ (eW x.tables) m)=(aQ (aW x) m)∧True))) (by kernel_rfl) ?_
 intro n0
 simp only [List.length_map] at n0
 have f_tables:=hf
 have hmx:maxLen=9223372036854775807:=rfl
 refine ⟨aLT x.tables _ (by first | assumption | exact hf) (by omega) (by omega),fun c0=>?_,fun c0=>?_⟩
 ·replace c0:=yq c0
  have y0:=iV c0
  refine ⟨?_,trivial⟩
  ·unfold aW;first | (rw [bN (by omega)];done) | (rw [aO (by omega)];done) | (rw [aO (by omega)];omega)
 ·replace c0:=nq c0
  have y0:=iG c0
  rw [aO y0] at*
  refine ⟨?_,trivial⟩
  ·unfold aW;first | (rw [bN (by omega)];done) | (rw [aO (by omega)];done) | (rw [aO (by omega)];omega)
abbrev aC7 (x:UpdateD) (m:Int):Prop:=dJ Tryz.prog 14 [.agg [.str x.name,.bool x.ins,.sl 3 1 (x.row.map intD)],.one (.int .i64 m)] (vI (aQ (dR x) m)) []
theorem aLU (x:UpdateD) (m:Int) (hf:aG7 x) (h0:0≤m) (h1:m≤1048576):aC7 x m:=by
 refine aZ bR aT Tryz.func14 (by kernel_rfl) (.br (.fin []) (.call (vI (aQ (bZ x.row) (m - ((x.name.size:Nat):Int)))) []<| .br (.fin []) (.fin []))) (p:=(x.row.map intD).length≤9223372036854775807→dO (m - ((x.name.size:Nat):Int))∧(((decide ((m - ((x.name.size:Nat):Int))<(0:Int)))=true→(-1:Int)=(aQ (dR x) m)∧True)∧((decide ((m - ((x.name.size:Nat):Int))<(0:Int)))=false→pP x.row (m - ((x.name.size:Nat):Int))∧(((decide ((aQ (bZ x.row) (m - ((x.name.size:Nat):Int)))<(0:Int)))=true→(-1:Int)=(aQ (dR x) m)∧True)∧((decide ((aQ (bZ x.row) (m - ((x.name.size:Nat):Int)))<(0:Int)))=false→(aQ (bZ x.row) (m - ((x.name.size:Nat):Int)))=(aQ (dR x) m)∧True))))) (by kernel_rfl) ?_
 intro n0
 simp only [List.length_map] at n0
 obtain ⟨f_name,f_ins,f_row⟩:=hf
 have hmx:maxLen=9223372036854775807:=rfl
 have g_name:x.name.size≤maxLen:=f_name
 refine ⟨⟨by omega,by omega⟩,fun c0=>?_,fun c0=>?_⟩
 ·replace c0:=yq c0
  refine ⟨?_,trivial⟩
  ·unfold dR;first | (rw [bN (by omega)];done) | (rw [aO (by omega)];done) | (rw [aO (by omega)];omega)
 ·replace c0:=nq c0
  refine ⟨aBO x.row _ (by first | assumption | exact hf) (by omega) (by omega),fun c1=>?_,fun c1=>?_⟩
  ·replace c1:=yq c1
   have y1:=iV c1
   refine ⟨?_,trivial⟩
   ·unfold dR;first | (rw [bN (by omega)];done) | (rw [aO (by omega)];done) | (rw [aO (by omega)];omega)
  ·replace c1:=nq c1
   have y1:=iG c1
   rw [aO y1] at*
   refine ⟨?_,trivial⟩
   ·unfold dR;first | (rw [bN (by omega)];done) | (rw [aO (by omega)];done) | (rw [aO (by omega)];omega)
abbrev aBP (x:List UpdateD) (m:Int):Prop:=dJ Tryz.prog 24 [.one (.sl 50 3 (x.map aX)),.one (.int .i64 m)] (vI (aQ (gE x) m)) []
theorem aJY (x:List UpdateD) (m:Int) (hf:aAh x) (h0:0≤m) (h1:m≤1048576):aBP x m:=by
 refine aZ bR aT Tryz.func24 (by kernel_rfl) (.len x.length<| .br (.fin []) (.loop (Nat × Int) (Q2 Nat Int) [1,5,12,13,14,15,16,17,18,19,20,21,22,23,24,25] [] (fun yy0=>[(5,vI (yy0.1:Int)),(1,vI yy0.2)]) (fun yy0=>[]) (fun yy0=>yy0.1≤x.length∧yy0.2=m - x.length - (bB dR (x.take yy0.1):Nat)∧0≤yy0.2) (fun yy0=>x.length - yy0.1) (fun yy0=> .len x.length<| .br (.elem _ aX x (fun e20=> .call (vI (aQ (dR e20) yy0.2)) []<| .br (.fin []) (.back []))) (.fin [])))) (p:=(x.map aX).length≤9223372036854775807→Lm aX x∧(dO (m - ((x.length:Nat):Int))∧(((decide ((m - ((x.length:Nat):Int))<(0:Int)))=true→(-1:Int)=(aQ (gE x) m)∧True)∧((decide ((m - ((x.length:Nat):Int))<(0:Int)))=false→(∃(k:Nat) (z:Int),(0:Int)=(k:Int)∧(m - ((x.length:Nat):Int))=z∧k≤x.length∧z=m - x.length - (bB dR (x.take k):Nat)∧0≤z)∧ ∀(k:Nat) (z:Int),(k≤x.length∧z=m - x.length - (bB dR (x.take k):Nat)∧0≤z)→Lm aX x∧(((decide ((k:Int)<((x.length:Nat):Int)))=true→0≤(k:Int)∧Em aX x k fun e20=>aC7 e20 z∧(((decide ((aQ (dR e20) z)<(0:Int)))=true→(-1:Int)=(aQ (gE x) m)∧True)∧((decide ((aQ (dR e20) z)<(0:Int)))=false→dO ((k:Int)+(1:Int))∧ ∃(k' :Nat) (z' :Int),((k:Int)+(1:Int))=(k' :Int)∧(aQ (dR e20) z)=z' ∧(k' ≤x.length∧z' =m - x.length - (bB dR (x.take k'):Nat)∧0≤z')∧x.length - k' <x.length - k)))∧((decide ((k:Int)<((x.length:Nat):Int)))=false→z=(aQ (gE x) m)∧True)))))) (by kernel_rfl) ?_
 intro n0
 simp only [List.length_map] at n0
 have hS:gE x=x.length+bB dR x:=rfl
 refine ⟨List.length_map _,⟨by omega,by omega⟩,fun c0=>?_,fun c0=>?_⟩
 ·replace c0:=yq c0
  refine ⟨?_,trivial⟩
  ·first | (rw [bN (by omega)];done) | (rw [aO (by omega)];done) | (rw [aO (by omega)];omega)
 ·replace c0:=nq c0
  refine ⟨⟨0,m - ((x.length:Nat):Int),rfl,rfl,Nat.zero_le _,by simp [bB],by omega⟩,fun k z ⟨hk,hz,hz0⟩=>?_⟩
  refine ⟨List.length_map _,fun c1=>?_,fun c1=>?_⟩
  ·replace c1:=yq c1
   obtain ⟨y,hy⟩:=cE (l:=x) (k:=k) (by omega)
   have hfy:=hf y (List.mem_of_getElem? hy)
   refine ⟨by omega,rfl,by omega,fun e20 h20=>?_⟩
   obtain rfl:=aV hy h20
   refine ⟨aLU e20 _ (by first | assumption | exact hf) (by omega) (by omega),fun c2=>?_,fun c2=>?_⟩
   ·replace c2:=yq c2
    have y3:=iV c2
    have y4:=bX dR ‹x[k]? =some _›
    have y5:=dX dR x (k+1)
    refine ⟨?_,trivial⟩
    ·first | (rw [bN (by omega)];done) | (rw [aO (by omega)];done) | (rw [aO (by omega)];omega)
   ·replace c2:=nq c2
    have y2:=aO (iG c2)
    have y3:=iG c2
    have y4:=bX dR ‹x[k]? =some _›
    refine ⟨⟨by omega,by omega⟩,?_⟩
    exact ⟨k+1,aQ (dR e20) z,rfl,rfl,⟨by omega,by rw [y2,y4,hz];omega,by rw [y2];omega⟩,by omega⟩
  ·replace c1:=nq c1
   have y6:k=x.length:=by omega
   rw [y6,List.take_length] at hz
   refine ⟨?_,trivial⟩
   ·first | (rw [bN (by omega)];done) | (rw [aO (by omega)];done) | (rw [aO (by omega)];omega)
abbrev uM (x:aH) (m:Int):Prop:=dJ Tryz.prog 281 [.agg [.sl 3 1 (x.columns.map intD),.sl 32 1 (x.values.map aF),.sl 3 1 (x.counts.map intD)],.one (.int .i64 m)] (vI (aQ (bD x) m)) []
theorem aFF (x:aH) (m:Int) (hf:vQ x) (h0:0≤m) (h1:m≤1048576):uM x m:=by
 refine aZ bR aT Tryz.func281 (by kernel_rfl) (.call (vI (aQ (bZ x.columns) m)) []<| .br (.fin []) (.call (vI (aQ (cP x.values) (aQ (bZ x.columns) m))) []<| .br (.fin []) (.call (vI (aQ (bZ x.counts) (aQ (cP x.values) (aQ (bZ x.columns) m)))) []<| .br (.fin []) (.fin [])))) (p:=(x.columns.map intD).length≤9223372036854775807→(x.values.map aF).length≤9223372036854775807→(x.counts.map intD).length≤9223372036854775807→pP x.columns m∧(((decide ((aQ (bZ x.columns) m)<(0:Int)))=true→(-1:Int)=(aQ (bD x) m)∧True)∧((decide ((aQ (bZ x.columns) m)<(0:Int)))=false→aAR x.values (aQ (bZ x.columns) m)∧(((decide ((aQ (cP x.values) (aQ (bZ x.columns) m))<(0:Int)))=true→(-1:Int)=(aQ (bD x) m)∧True)∧((decide ((aQ (cP x.values) (aQ (bZ x.columns) m))<(0:Int)))=false→pP x.counts (aQ (cP x.values) (aQ (bZ x.columns) m))∧(((decide ((aQ (bZ x.counts) (aQ (cP x.values) (aQ (bZ x.columns) m)))<(0:Int)))=true→(-1:Int)=(aQ (bD x) m)∧True)∧((decide ((aQ (bZ x.counts) (aQ (cP x.values) (aQ (bZ x.columns) m)))<(0:Int)))=false→(aQ (bZ x.counts) (aQ (cP x.values) (aQ (bZ x.columns) m)))=(aQ (bD x) m)∧True))))))) (by kernel_rfl) ?_
 intro n0 n1 n2
 simp only [List.length_map] at n0 n1 n2
 obtain ⟨f_columns,f_values,f_counts⟩:=hf
 have hmx:maxLen=9223372036854775807:=rfl
 refine ⟨aBO x.columns _ (by first | assumption | exact hf) (by omega) (by omega),fun c0=>?_,fun c0=>?_⟩
 ·replace c0:=yq c0
  have y0:=iV c0
  refine ⟨?_,trivial⟩
  ·unfold bD;first | (rw [bN (by omega)];done) | (rw [aO (by omega)];done) | (rw [aO (by omega)];omega)
 ·replace c0:=nq c0
  have y0:=iG c0
  rw [aO y0] at*
  refine ⟨aI5 x.values _ (by first | assumption | exact hf) (by omega) (by omega),fun c1=>?_,fun c1=>?_⟩
  ·replace c1:=yq c1
   have y1:=iV c1
   refine ⟨?_,trivial⟩
   ·unfold bD;first | (rw [bN (by omega)];done) | (rw [aO (by omega)];done) | (rw [aO (by omega)];omega)
  ·replace c1:=nq c1
   have y1:=iG c1
   rw [aO y1] at*
   refine ⟨aBO x.counts _ (by first | assumption | exact hf) (by omega) (by omega),fun c2=>?_,fun c2=>?_⟩
   ·replace c2:=yq c2
    have y2:=iV c2
    refine ⟨?_,trivial⟩
    ·unfold bD;first | (rw [bN (by omega)];done) | (rw [aO (by omega)];done) | (rw [aO (by omega)];omega)
   ·replace c2:=nq c2
    have y2:=iG c2
    rw [aO y2] at*
    refine ⟨?_,trivial⟩
    ·unfold bD;first | (rw [bN (by omega)];done) | (rw [aO (by omega)];done) | (rw [aO (by omega)];omega)
abbrev sZ (x:List aH) (m:Int):Prop:=dJ Tryz.prog 257 [.one (.sl 218 3 (x.map aC)),.one (.int .i64 m)] (vI (aQ (cS x) m)) []
theorem aEa (x:List aH) (m:Int) (hf:pB x) (h0:0≤m) (h1:m≤1048576):sZ x m:=by
 refine aZ bR aT Tryz.func257 (by kernel_rfl) (.len x.length<| .br (.fin []) (.loop (Nat × Int) (Q2 Nat Int) [1,5,12,13,14,15,16,17,18,19,20,21,22,23,24,25] [] (fun yy0=>[(5,vI (yy0.1:Int)),(1,vI yy0.2)]) (fun yy0=>[]) (fun yy0=>yy0.1≤x.length∧yy0.2=m - x.length - (bB bD (x.take yy0.1):Nat)∧0≤yy0.2) (fun yy0=>x.length - yy0.1) (fun yy0=> .len x.length<| .br (.elem _ aC x (fun e20=> .call (vI (aQ (bD e20) yy0.2)) []<| .br (.fin []) (.back []))) (.fin [])))) (p:=(x.map aC).length≤9223372036854775807→Lm aC x∧(dO (m - ((x.length:Nat):Int))∧(((decide ((m - ((x.length:Nat):Int))<(0:Int)))=true→(-1:Int)=(aQ (cS x) m)∧True)∧((decide ((m - ((x.length:Nat):Int))<(0:Int)))=false→(∃(k:Nat) (z:Int),(0:Int)=(k:Int)∧(m - ((x.length:Nat):Int))=z∧k≤x.length∧z=m - x.length - (bB bD (x.take k):Nat)∧0≤z)∧ ∀(k:Nat) (z:Int),(k≤x.length∧z=m - x.length - (bB bD (x.take k):Nat)∧0≤z)→Lm aC x∧(((decide ((k:Int)<((x.length:Nat):Int)))=true→0≤(k:Int)∧Em aC x k fun e20=>uM e20 z∧(((decide ((aQ (bD e20) z)<(0:Int)))=true→(-1:Int)=(aQ (cS x) m)∧True)∧((decide ((aQ (bD e20) z)<(0:Int)))=false→dO ((k:Int)+(1:Int))∧ ∃(k' :Nat) (z' :Int),((k:Int)+(1:Int))=(k' :Int)∧(aQ (bD e20) z)=z' ∧(k' ≤x.length∧z' =m - x.length - (bB bD (x.take k'):Nat)∧0≤z')∧x.length - k' <x.length - k)))∧((decide ((k:Int)<((x.length:Nat):Int)))=false→z=(aQ (cS x) m)∧True)))))) (by kernel_rfl) ?_
 intro n0
 simp only [List.length_map] at n0
 have hS:cS x=x.length+bB bD x:=rfl
 refine ⟨List.length_map _,⟨by omega,by omega⟩,fun c0=>?_,fun c0=>?_⟩
 ·replace c0:=yq c0
  refine ⟨?_,trivial⟩
  ·first | (rw [bN (by omega)];done) | (rw [aO (by omega)];done) | (rw [aO (by omega)];omega)
 ·replace c0:=nq c0
  refine ⟨⟨0,m - ((x.length:Nat):Int),rfl,rfl,Nat.zero_le _,by simp [bB],by omega⟩,fun k z ⟨hk,hz,hz0⟩=>?_⟩
  refine ⟨List.length_map _,fun c1=>?_,fun c1=>?_⟩
  ·replace c1:=yq c1
   obtain ⟨y,hy⟩:=cE (l:=x) (k:=k) (by omega)
   have hfy:=hf y (List.mem_of_getElem? hy)
   refine ⟨by omega,rfl,by omega,fun e20 h20=>?_⟩
   obtain rfl:=aV hy h20
   refine ⟨aFF e20 _ (by first | assumption | exact hf) (by omega) (by omega),fun c2=>?_,fun c2=>?_⟩
   ·replace c2:=yq c2
    have y3:=iV c2
    have y4:=bX bD ‹x[k]? =some _›
    have y5:=dX bD x (k+1)
    refine ⟨?_,trivial⟩
    ·first | (rw [bN (by omega)];done) | (rw [aO (by omega)];done) | (rw [aO (by omega)];omega)
   ·replace c2:=nq c2
    have y2:=aO (iG c2)
    have y3:=iG c2
    have y4:=bX bD ‹x[k]? =some _›
    refine ⟨⟨by omega,by omega⟩,?_⟩
    exact ⟨k+1,aQ (bD e20) z,rfl,rfl,⟨by omega,by rw [y2,y4,hz];omega,by rw [y2];omega⟩,by omega⟩
  ·replace c1:=nq c1
   have y6:k=x.length:=by omega
   rw [y6,List.take_length] at hz
   refine ⟨?_,trivial⟩
   ·first | (rw [bN (by omega)];done) | (rw [aO (by omega)];done) | (rw [aO (by omega)];omega)
abbrev uN (x:aG) (m:Int):Prop:=dJ Tryz.prog 203 [.agg [.str x.name,.int .i64 x.arity,.int .i64 x.rowCount,.sl 218 3 (x.groups.map aC)],.one (.int .i64 m)] (vI (aQ (bC x) m)) []
theorem aFG (x:aG) (m:Int) (hf:vR x) (h0:0≤m) (h1:m≤1048576):uN x m:=by
 refine aZ bR aT Tryz.func203 (by kernel_rfl) (.br (.fin []) (.call (vI (aQ (cS x.groups) (m - ((x.name.size:Nat):Int)))) []<| .br (.fin []) (.fin []))) (p:=(x.groups.map aC).length≤9223372036854775807→dO (m - ((x.name.size:Nat):Int))∧(((decide ((m - ((x.name.size:Nat):Int))<(0:Int)))=true→(-1:Int)=(aQ (bC x) m)∧True)∧((decide ((m - ((x.name.size:Nat):Int))<(0:Int)))=false→sZ x.groups (m - ((x.name.size:Nat):Int))∧(((decide ((aQ (cS x.groups) (m - ((x.name.size:Nat):Int)))<(0:Int)))=true→(-1:Int)=(aQ (bC x) m)∧True)∧((decide ((aQ (cS x.groups) (m - ((x.name.size:Nat):Int)))<(0:Int)))=false→(aQ (cS x.groups) (m - ((x.name.size:Nat):Int)))=(aQ (bC x) m)∧True))))) (by kernel_rfl) ?_
 intro n0
 simp only [List.length_map] at n0
 obtain ⟨f_name,f_arity,f_rowCount,f_groups⟩:=hf
 have hmx:maxLen=9223372036854775807:=rfl
 have g_name:x.name.size≤maxLen:=f_name
 refine ⟨⟨by omega,by omega⟩,fun c0=>?_,fun c0=>?_⟩
 ·replace c0:=yq c0
  refine ⟨?_,trivial⟩
  ·unfold bC;first | (rw [bN (by omega)];done) | (rw [aO (by omega)];done) | (rw [aO (by omega)];omega)
 ·replace c0:=nq c0
  refine ⟨aEa x.groups _ (by first | assumption | exact hf) (by omega) (by omega),fun c1=>?_,fun c1=>?_⟩
  ·replace c1:=yq c1
   have y1:=iV c1
   refine ⟨?_,trivial⟩
   ·unfold bC;first | (rw [bN (by omega)];done) | (rw [aO (by omega)];done) | (rw [aO (by omega)];omega)
  ·replace c1:=nq c1
   have y1:=iG c1
   rw [aO y1] at*
   refine ⟨?_,trivial⟩
   ·unfold bC;first | (rw [bN (by omega)];done) | (rw [aO (by omega)];done) | (rw [aO (by omega)];omega)
abbrev tA (x:List aG) (m:Int):Prop:=dJ Tryz.prog 126 [.one (.sl 121 4 (x.map aA)),.one (.int .i64 m)] (vI (aQ (cT x) m)) []
theorem aEb (x:List aG) (m:Int) (hf:pC x) (h0:0≤m) (h1:m≤1048576):tA x m:=by
 refine aZ bR aT Tryz.func126 (by kernel_rfl) (.len x.length<| .br (.fin []) (.loop (Nat × Int) (Q2 Nat Int) [1,5,12,13,14,15,16,17,18,19,20,21,22,23,24,25] [] (fun yy0=>[(5,vI (yy0.1:Int)),(1,vI yy0.2)]) (fun yy0=>[]) (fun yy0=>yy0.1≤x.length∧yy0.2=m - x.length - (bB bC (x.take yy0.1):Nat)∧0≤yy0.2) (fun yy0=>x.length - yy0.1) (fun yy0=> .len x.length<| .br (.elem _ aA x (fun e20=> .call (vI (aQ (bC e20) yy0.2)) []<| .br (.fin []) (.back []))) (.fin [])))) (p:=(x.map aA).length≤9223372036854775807→Lm aA x∧(dO (m - ((x.length:Nat):Int))∧(((decide ((m - ((x.length:Nat):Int))<(0:Int)))=true→(-1:Int)=(aQ (cT x) m)∧True)∧((decide ((m - ((x.length:Nat):Int))<(0:Int)))=false→(∃(k:Nat) (z:Int),(0:Int)=(k:Int)∧(m - ((x.length:Nat):Int))=z∧k≤x.length∧z=m - x.length - (bB bC (x.take k):Nat)∧0≤z)∧ ∀(k:Nat) (z:Int),(k≤x.length∧z=m - x.length - (bB bC (x.take k):Nat)∧0≤z)→Lm aA x∧(((decide ((k:Int)<((x.length:Nat):Int)))=true→0≤(k:Int)∧Em aA x k fun e20=>uN e20 z∧(((decide ((aQ (bC e20) z)<(0:Int)))=true→(-1:Int)=(aQ (cT x) m)∧True)∧((decide ((aQ (bC e20) z)<(0:Int)))=false→dO ((k:Int)+(1:Int))∧ ∃(k' :Nat) (z' :Int),((k:Int)+(1:Int))=(k' :Int)∧(aQ (bC e20) z)=z' ∧(k' ≤x.length∧z' =m - x.length - (bB bC (x.take k'):Nat)∧0≤z')∧x.length - k' <x.length - k)))∧((decide ((k:Int)<((x.length:Nat):Int)))=false→z=(aQ (cT x) m)∧True)))))) (by kernel_rfl) ?_
 intro n0
 simp only [List.length_map] at n0
 have hS:cT x=x.length+bB bC x:=rfl
 refine ⟨List.length_map _,⟨by omega,by omega⟩,fun c0=>?_,fun c0=>?_⟩
 ·replace c0:=yq c0
  refine ⟨?_,trivial⟩
  ·first | (rw [bN (by omega)];done) | (rw [aO (by omega)];done) | (rw [aO (by omega)];omega)
 ·replace c0:=nq c0
  refine ⟨⟨0,m - ((x.length:Nat):Int),rfl,rfl,Nat.zero_le _,by simp [bB],by omega⟩,fun k z ⟨hk,hz,hz0⟩=>?_⟩
  refine ⟨List.length_map _,fun c1=>?_,fun c1=>?_⟩
  ·replace c1:=yq c1
   obtain ⟨y,hy⟩:=cE (l:=x) (k:=k) (by omega)
   have hfy:=hf y (List.mem_of_getElem? hy)
   refine ⟨by omega,rfl,by omega,fun e20 h20=>?_⟩
   obtain rfl:=aV hy h20
   refine ⟨aFG e20 _ (by first | assumption | exact hf) (by omega) (by omega),fun c2=>?_,fun c2=>?_⟩
   ·replace c2:=yq c2
    have y3:=iV c2
    have y4:=bX bC ‹x[k]? =some _›
    have y5:=dX bC x (k+1)
    refine ⟨?_,trivial⟩
    ·first | (rw [bN (by omega)];done) | (rw [aO (by omega)];done) | (rw [aO (by omega)];omega)
   ·replace c2:=nq c2
    have y2:=aO (iG c2)
    have y3:=iG c2
    have y4:=bX bC ‹x[k]? =some _›
    refine ⟨⟨by omega,by omega⟩,?_⟩
    exact ⟨k+1,aQ (bC e20) z,rfl,rfl,⟨by omega,by rw [y2,y4,hz];omega,by rw [y2];omega⟩,by omega⟩
  ·replace c1:=nq c1
   have y6:k=x.length:=by omega
   rw [y6,List.take_length] at hz
   refine ⟨?_,trivial⟩
   ·first | (rw [bN (by omega)];done) | (rw [aO (by omega)];done) | (rw [aO (by omega)];omega)
abbrev xJ (x:cA) (m:Int):Prop:=dJ Tryz.prog 58 [.agg [.int .i64 x.version,.sl 121 4 (x.tables.map aA)],.one (.int .i64 m)] (vI (aQ (bK x) m)) []
theorem aGt (x:cA) (m:Int) (hf:zG x) (h0:0≤m) (h1:m≤1048576):xJ x m:=by
 refine aZ bR aT Tryz.func58 (by kernel_rfl) (.call (vI (aQ (cT x.tables) m)) []<| .br (.fin []) (.fin [])) (p:=(x.tables.map aA).length≤9223372036854775807→tA x.tables m∧(((decide ((aQ (cT x.tables) m)<(0:Int)))=true→(-1:Int)=(aQ (bK x) m)∧True)∧((decide ((aQ (cT x.tables) m)<(0:Int)))=false→(aQ (cT x.tables) m)=(aQ (bK x) m)∧True))) (by kernel_rfl) ?_
 intro n0
 simp only [List.length_map] at n0
 obtain ⟨f_version,f_tables⟩:=hf
 have hmx:maxLen=9223372036854775807:=rfl
 refine ⟨aEb x.tables _ (by first | assumption | exact hf) (by omega) (by omega),fun c0=>?_,fun c0=>?_⟩
 ·replace c0:=yq c0
  have y0:=iV c0
  refine ⟨?_,trivial⟩
  ·unfold bK;first | (rw [bN (by omega)];done) | (rw [aO (by omega)];done) | (rw [aO (by omega)];omega)
 ·replace c0:=nq c0
  have y0:=iG c0
  rw [aO y0] at*
  refine ⟨?_,trivial⟩
  ·unfold bK;first | (rw [bN (by omega)];done) | (rw [aO (by omega)];done) | (rw [aO (by omega)];omega)
abbrev uO (x:aJ) (m:Int):Prop:=dJ Tryz.prog 127 [.agg [.str x.name,.sl 3 1 (x.src.map intD),.int .i64 x.dst],.one (.int .i64 m)] (vI (aQ (bI x) m)) []
theorem aFH (x:aJ) (m:Int) (hf:vS x) (h0:0≤m) (h1:m≤1048576):uO x m:=by
 refine aZ bR aT Tryz.func127 (by kernel_rfl) (.br (.fin []) (.call (vI (aQ (bZ x.src) (m - ((x.name.size:Nat):Int)))) []<| .br (.fin []) (.fin []))) (p:=(x.src.map intD).length≤9223372036854775807→dO (m - ((x.name.size:Nat):Int))∧(((decide ((m - ((x.name.size:Nat):Int))<(0:Int)))=true→(-1:Int)=(aQ (bI x) m)∧True)∧((decide ((m - ((x.name.size:Nat):Int))<(0:Int)))=false→pP x.src (m - ((x.name.size:Nat):Int))∧(((decide ((aQ (bZ x.src) (m - ((x.name.size:Nat):Int)))<(0:Int)))=true→(-1:Int)=(aQ (bI x) m)∧True)∧((decide ((aQ (bZ x.src) (m - ((x.name.size:Nat):Int)))<(0:Int)))=false→(aQ (bZ x.src) (m - ((x.name.size:Nat):Int)))=(aQ (bI x) m)∧True))))) (by kernel_rfl) ?_
 intro n0
 simp only [List.length_map] at n0
 obtain ⟨f_name,f_src,f_dst⟩:=hf
 have hmx:maxLen=9223372036854775807:=rfl
 have g_name:x.name.size≤maxLen:=f_name
 refine ⟨⟨by omega,by omega⟩,fun c0=>?_,fun c0=>?_⟩
 ·replace c0:=yq c0
  refine ⟨?_,trivial⟩
  ·unfold bI;first | (rw [bN (by omega)];done) | (rw [aO (by omega)];done) | (rw [aO (by omega)];omega)
 ·replace c0:=nq c0
  refine ⟨aBO x.src _ (by first | assumption | exact hf) (by omega) (by omega),fun c1=>?_,fun c1=>?_⟩
  ·replace c1:=yq c1
   have y1:=iV c1
   refine ⟨?_,trivial⟩
   ·unfold bI;first | (rw [bN (by omega)];done) | (rw [aO (by omega)];done) | (rw [aO (by omega)];omega)
  ·replace c1:=nq c1
   have y1:=iG c1
   rw [aO y1] at*
   refine ⟨?_,trivial⟩
   ·unfold bI;first | (rw [bN (by omega)];done) | (rw [aO (by omega)];done) | (rw [aO (by omega)];omega)
abbrev tB (x:List aJ) (m:Int):Prop:=dJ Tryz.prog 59 [.one (.sl 168 3 (x.map aB)),.one (.int .i64 m)] (vI (aQ (bH x) m)) []
theorem aEc (x:List aJ) (m:Int) (hf:pD x) (h0:0≤m) (h1:m≤1048576):tB x m:=by
 refine aZ bR aT Tryz.func59 (by kernel_rfl) (.len x.length<| .br (.fin []) (.loop (Nat × Int) (Q2 Nat Int) [1,5,12,13,14,15,16,17,18,19,20,21,22,23,24,25] [] (fun yy0=>[(5,vI (yy0.1:Int)),(1,vI yy0.2)]) (fun yy0=>[]) (fun yy0=>yy0.1≤x.length∧yy0.2=m - x.length - (bB bI (x.take yy0.1):Nat)∧0≤yy0.2) (fun yy0=>x.length - yy0.1) (fun yy0=> .len x.length<| .br (.elem _ aB x (fun e20=> .call (vI (aQ (bI e20) yy0.2)) []<| .br (.fin []) (.back []))) (.fin [])))) (p:=(x.map aB).length≤9223372036854775807→Lm aB x∧(dO (m - ((x.length:Nat):Int))∧(((decide ((m - ((x.length:Nat):Int))<(0:Int)))=true→(-1:Int)=(aQ (bH x) m)∧True)∧((decide ((m - ((x.length:Nat):Int))<(0:Int)))=false→(∃(k:Nat) (z:Int),(0:Int)=(k:Int)∧(m - ((x.length:Nat):Int))=z∧k≤x.length∧z=m - x.length - (bB bI (x.take k):Nat)∧0≤z)∧ ∀(k:Nat) (z:Int),(k≤x.length∧z=m - x.length - (bB bI (x.take k):Nat)∧0≤z)→Lm aB x∧(((decide ((k:Int)<((x.length:Nat):Int)))=true→0≤(k:Int)∧Em aB x k fun e20=>uO e20 z∧(((decide ((aQ (bI e20) z)<(0:Int)))=true→(-1:Int)=(aQ (bH x) m)∧True)∧((decide ((aQ (bI e20) z)<(0:Int)))=false→dO ((k:Int)+(1:Int))∧ ∃(k' :Nat) (z' :Int),((k:Int)+(1:Int))=(k' :Int)∧(aQ (bI e20) z)=z' ∧(k' ≤x.length∧z' =m - x.length - (bB bI (x.take k'):Nat)∧0≤z')∧x.length - k' <x.length - k)))∧((decide ((k:Int)<((x.length:Nat):Int)))=false→z=(aQ (bH x) m)∧True)))))) (by kernel_rfl) ?_
 intro n0
 simp only [List.length_map] at n0
 have hS:bH x=x.length+bB bI x:=rfl
 refine ⟨List.length_map _,⟨by omega,by omega⟩,fun c0=>?_,fun c0=>?_⟩
 ·replace c0:=yq c0
  refine ⟨?_,trivial⟩
  ·first | (rw [bN (by omega)];done) | (rw [aO (by omega)];done) | (rw [aO (by omega)];omega)
 ·replace c0:=nq c0
  refine ⟨⟨0,m - ((x.length:Nat):Int),rfl,rfl,Nat.zero_le _,by simp [bB],by omega⟩,fun k z ⟨hk,hz,hz0⟩=>?_⟩
  refine ⟨List.length_map _,fun c1=>?_,fun c1=>?_⟩
  ·replace c1:=yq c1
   obtain ⟨y,hy⟩:=cE (l:=x) (k:=k) (by omega)
   have hfy:=hf y (List.mem_of_getElem? hy)
   refine ⟨by omega,rfl,by omega,fun e20 h20=>?_⟩
   obtain rfl:=aV hy h20
   refine ⟨aFH e20 _ (by first | assumption | exact hf) (by omega) (by omega),fun c2=>?_,fun c2=>?_⟩
   ·replace c2:=yq c2
    have y3:=iV c2
    have y4:=bX bI ‹x[k]? =some _›
    have y5:=dX bI x (k+1)
    refine ⟨?_,trivial⟩
    ·first | (rw [bN (by omega)];done) | (rw [aO (by omega)];done) | (rw [aO (by omega)];omega)
   ·replace c2:=nq c2
    have y2:=aO (iG c2)
    have y3:=iG c2
    have y4:=bX bI ‹x[k]? =some _›
    refine ⟨⟨by omega,by omega⟩,?_⟩
    exact ⟨k+1,aQ (bI e20) z,rfl,rfl,⟨by omega,by rw [y2,y4,hz];omega,by rw [y2];omega⟩,by omega⟩
  ·replace c1:=nq c1
   have y6:k=x.length:=by omega
   rw [y6,List.take_length] at hz
   refine ⟨?_,trivial⟩
   ·first | (rw [bN (by omega)];done) | (rw [aO (by omega)];done) | (rw [aO (by omega)];omega)
abbrev xK (x:aL) (m:Int):Prop:=dJ Tryz.prog 128 [.agg [.str x.name,.int .i64 x.column,.str x.into,.int .i64 x.intoColumn],.one (.int .i64 m)] (vI (aQ (bU x) m)) []
theorem aGu (x:aL) (m:Int) (hf:zH x) (h0:0≤m) (h1:m≤1048576):xK x m:=by
 refine aZ bR aT Tryz.func128 (by kernel_rfl) (.br (.fin []) (.br (.fin []) (.fin []))) (p:=dO (m - ((x.name.size:Nat):Int))∧(((decide ((m - ((x.name.size:Nat):Int))<(0:Int)))=true→(-1:Int)=(aQ (bU x) m)∧True)∧((decide ((m - ((x.name.size:Nat):Int))<(0:Int)))=false→dO ((m - ((x.name.size:Nat):Int)) - ((x.into.size:Nat):Int))∧(((decide (((m - ((x.name.size:Nat):Int)) - ((x.into.size:Nat):Int))<(0:Int)))=true→(-1:Int)=(aQ (bU x) m)∧True)∧((decide (((m - ((x.name.size:Nat):Int)) - ((x.into.size:Nat):Int))<(0:Int)))=false→((m - ((x.name.size:Nat):Int)) - ((x.into.size:Nat):Int))=(aQ (bU x) m)∧True))))) (by kernel_rfl) ?_
 obtain ⟨f_name,f_column,f_into,f_intoColumn⟩:=hf
 have hmx:maxLen=9223372036854775807:=rfl
 have g_name:x.name.size≤maxLen:=f_name
 have g_into:x.into.size≤maxLen:=f_into
 refine ⟨⟨by omega,by omega⟩,fun c0=>?_,fun c0=>?_⟩
 ·replace c0:=yq c0
  refine ⟨?_,trivial⟩
  ·unfold bU;first | (rw [bN (by omega)];done) | (rw [aO (by omega)];done) | (rw [aO (by omega)];omega)
 ·replace c0:=nq c0
  refine ⟨⟨by omega,by omega⟩,fun c1=>?_,fun c1=>?_⟩
  ·replace c1:=yq c1
   refine ⟨?_,trivial⟩
   ·unfold bU;first | (rw [bN (by omega)];done) | (rw [aO (by omega)];done) | (rw [aO (by omega)];omega)
  ·replace c1:=nq c1
   refine ⟨?_,trivial⟩
   ·unfold bU;first | (rw [bN (by omega)];done) | (rw [aO (by omega)];done) | (rw [aO (by omega)];omega)
abbrev uP (x:List aL) (m:Int):Prop:=dJ Tryz.prog 60 [.one (.sl 170 4 (x.map aE)),.one (.int .i64 m)] (vI (aQ (cG x) m)) []
theorem aFI (x:List aL) (m:Int) (hf:rC x) (h0:0≤m) (h1:m≤1048576):uP x m:=by
 refine aZ bR aT Tryz.func60 (by kernel_rfl) (.len x.length<| .br (.fin []) (.loop (Nat × Int) (Q2 Nat Int) [1,5,12,13,14,15,16,17,18,19,20,21,22,23,24,25] [] (fun yy0=>[(5,vI (yy0.1:Int)),(1,vI yy0.2)]) (fun yy0=>[]) (fun yy0=>yy0.1≤x.length∧yy0.2=m - x.length - (bB bU (x.take yy0.1):Nat)∧0≤yy0.2) (fun yy0=>x.length - yy0.1) (fun yy0=> .len x.length<| .br (.elem _ aE x (fun e20=> .call (vI (aQ (bU e20) yy0.2)) []<| .br (.fin []) (.back []))) (.fin [])))) (p:=(x.map aE).length≤9223372036854775807→Lm aE x∧(dO (m - ((x.length:Nat):Int))∧(((decide ((m - ((x.length:Nat):Int))<(0:Int)))=true→(-1:Int)=(aQ (cG x) m)∧True)∧((decide ((m - ((x.length:Nat):Int))<(0:Int)))=false→(∃(k:Nat) (z:Int),(0:Int)=(k:Int)∧(m - ((x.length:Nat):Int))=z∧k≤x.length∧z=m - x.length - (bB bU (x.take k):Nat)∧0≤z)∧ ∀(k:Nat) (z:Int),(k≤x.length∧z=m - x.length - (bB bU (x.take k):Nat)∧0≤z)→Lm aE x∧(((decide ((k:Int)<((x.length:Nat):Int)))=true→0≤(k:Int)∧Em aE x k fun e20=>xK e20 z∧(((decide ((aQ (bU e20) z)<(0:Int)))=true→(-1:Int)=(aQ (cG x) m)∧True)∧((decide ((aQ (bU e20) z)<(0:Int)))=false→dO ((k:Int)+(1:Int))∧ ∃(k' :Nat) (z' :Int),((k:Int)+(1:Int))=(k' :Int)∧(aQ (bU e20) z)=z' ∧(k' ≤x.length∧z' =m - x.length - (bB bU (x.take k'):Nat)∧0≤z')∧x.length - k' <x.length - k)))∧((decide ((k:Int)<((x.length:Nat):Int)))=false→z=(aQ (cG x) m)∧True)))))) (by kernel_rfl) ?_
 intro n0
 simp only [List.length_map] at n0
 have hS:cG x=x.length+bB bU x:=rfl
 refine ⟨List.length_map _,⟨by omega,by omega⟩,fun c0=>?_,fun c0=>?_⟩
 ·replace c0:=yq c0
  refine ⟨?_,trivial⟩
  ·first | (rw [bN (by omega)];done) | (rw [aO (by omega)];done) | (rw [aO (by omega)];omega)
 ·replace c0:=nq c0
  refine ⟨⟨0,m - ((x.length:Nat):Int),rfl,rfl,Nat.zero_le _,by simp [bB],by omega⟩,fun k z ⟨hk,hz,hz0⟩=>?_⟩
  refine ⟨List.length_map _,fun c1=>?_,fun c1=>?_⟩
  ·replace c1:=yq c1
   obtain ⟨y,hy⟩:=cE (l:=x) (k:=k) (by omega)
   have hfy:=hf y (List.mem_of_getElem? hy)
   refine ⟨by omega,rfl,by omega,fun e20 h20=>?_⟩
   obtain rfl:=aV hy h20
   refine ⟨aGu e20 _ (by first | assumption | exact hf) (by omega) (by omega),fun c2=>?_,fun c2=>?_⟩
   ·replace c2:=yq c2
    have y3:=iV c2
    have y4:=bX bU ‹x[k]? =some _›
    have y5:=dX bU x (k+1)
    refine ⟨?_,trivial⟩
    ·first | (rw [bN (by omega)];done) | (rw [aO (by omega)];done) | (rw [aO (by omega)];omega)
   ·replace c2:=nq c2
    have y2:=aO (iG c2)
    have y3:=iG c2
    have y4:=bX bU ‹x[k]? =some _›
    refine ⟨⟨by omega,by omega⟩,?_⟩
    exact ⟨k+1,aQ (bU e20) z,rfl,rfl,⟨by omega,by rw [y2,y4,hz];omega,by rw [y2];omega⟩,by omega⟩
  ·replace c1:=nq c1
   have y6:k=x.length:=by omega
   rw [y6,List.take_length] at hz
   refine ⟨?_,trivial⟩
   ·first | (rw [bN (by omega)];done) | (rw [aO (by omega)];done) | (rw [aO (by omega)];omega)
abbrev aEd (x:StoreD) (m:Int):Prop:=dJ Tryz.prog 13 [.agg [.sl 162 3 (x.database.tables.map aD),.int .i64 x.catalogue.version,.sl 121 4 (x.catalogue.tables.map aA),.sl 168 3 (x.dependencies.map aB),.sl 170 4 (x.inclusions.map aE)],.one (.int .i64 m)] (vI (aQ (dQ x) m)) []
theorem aNL (x:StoreD) (m:Int) (hf:aJB x) (h0:0≤m) (h1:m≤1048576):aEd x m:=by
 refine aZ bR aT Tryz.func13 (by kernel_rfl) (.call (vI (aQ (aW x.database) m)) []<| .br (.fin []) (.call (vI (aQ (bK x.catalogue) (aQ (aW x.database) m))) []<| .br (.fin []) (.call (vI (aQ (bH x.dependencies) (aQ (bK x.catalogue) (aQ (aW x.database) m)))) []<| .br (.fin []) (.call (vI (aQ (cG x.inclusions) (aQ (bH x.dependencies) (aQ (bK x.catalogue) (aQ (aW x.database) m))))) []<| .br (.fin []) (.fin []))))) (p:=(x.database.tables.map aD).length≤9223372036854775807→(x.catalogue.tables.map aA).length≤9223372036854775807→(x.dependencies.map aB).length≤9223372036854775807→(x.inclusions.map aE).length≤9223372036854775807→yU x.database m∧(((decide ((aQ (aW x.database) m)<(0:Int)))=true→(-1:Int)=(aQ (dQ x) m)∧True)∧((decide ((aQ (aW x.database) m)<(0:Int)))=false→xJ x.catalogue (aQ (aW x.database) m)∧(((decide ((aQ (bK x.catalogue) (aQ (aW x.database) m))<(0:Int)))=true→(-1:Int)=(aQ (dQ x) m)∧True)∧((decide ((aQ (bK x.catalogue) (aQ (aW x.database) m))<(0:Int)))=false→tB x.dependencies (aQ (bK x.catalogue) (aQ (aW x.database) m))∧(((decide ((aQ (bH x.dependencies) (aQ (bK x.catalogue) (aQ (aW x.database) m)))<(0:Int)))=true→(-1:Int)=(aQ (dQ x) m)∧True)∧((decide ((aQ (bH x.dependencies) (aQ (bK x.catalogue) (aQ (aW x.database) m)))<(0:Int)))=false→uP x.inclusions (aQ (bH x.dependencies) (aQ (bK x.catalogue) (aQ (aW x.database) m)))∧(((decide ((aQ (cG x.inclusions) (aQ (bH x.dependencies) (aQ (bK x.catalogue) (aQ (aW x.database) m))))<(0:Int)))=true→(-1:Int)=(aQ (dQ x) m)∧True)∧((decide ((aQ (cG x.inclusions) (aQ (bH x.dependencies) (aQ (bK x.catalogue) (aQ (aW x.database) m))))<(0:Int)))=false→(aQ (cG x.inclusions) (aQ (bH x.dependencies) (aQ (bK x.catalogue) (aQ (aW x.database) m))))=(aQ (dQ x) m)∧True))))))))) (by kernel_rfl) ?_
 intro n0 n1 n2 n3
 simp only [List.length_map] at n0 n1 n2 n3
 obtain ⟨f_database,f_catalogue,f_dependencies,f_inclusions⟩:=hf
 have hmx:maxLen=9223372036854775807:=rfl
 refine ⟨aI6 x.database _ (by first | assumption | exact hf) (by omega) (by omega),fun c0=>?_,fun c0=>?_⟩
 ·replace c0:=yq c0
  have y0:=iV c0
  refine ⟨?_,trivial⟩
  ·unfold dQ;first | (rw [bN (by omega)];done) | (rw [aO (by omega)];done) | (rw [aO (by omega)];omega)
 ·replace c0:=nq c0
  have y0:=iG c0
  rw [aO y0] at*
  refine ⟨aGt x.catalogue _ (by first | assumption | exact hf) (by omega) (by omega),fun c1=>?_,fun c1=>?_⟩
  ·replace c1:=yq c1
   have y1:=iV c1
   refine ⟨?_,trivial⟩
   ·unfold dQ;first | (rw [bN (by omega)];done) | (rw [aO (by omega)];done) | (rw [aO (by omega)];omega)
  ·replace c1:=nq c1
   have y1:=iG c1
   rw [aO y1] at*
   refine ⟨aEc x.dependencies _ (by first | assumption | exact hf) (by omega) (by omega),fun c2=>?_,fun c2=>?_⟩
   ·replace c2:=yq c2
    have y2:=iV c2
    refine ⟨?_,trivial⟩
    ·unfold dQ;first | (rw [bN (by omega)];done) | (rw [aO (by omega)];done) | (rw [aO (by omega)];omega)
   ·replace c2:=nq c2
    have y2:=iG c2
    rw [aO y2] at*
    refine ⟨aFI x.inclusions _ (by first | assumption | exact hf) (by omega) (by omega),fun c3=>?_,fun c3=>?_⟩
    ·replace c3:=yq c3
     have y3:=iV c3
     refine ⟨?_,trivial⟩
     ·unfold dQ;first | (rw [bN (by omega)];done) | (rw [aO (by omega)];done) | (rw [aO (by omega)];omega)
    ·replace c3:=nq c3
     have y3:=iG c3
     rw [aO y3] at*
     refine ⟨?_,trivial⟩
     ·unfold dQ;first | (rw [bN (by omega)];done) | (rw [aO (by omega)];done) | (rw [aO (by omega)];omega)
end Go.Proofs.YtokkjaflmcjlhaaGreat
