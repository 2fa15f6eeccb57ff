/-
  Contracts and plain laws, joined: part 13.
-/
import Derived.Test.YtokkjaflmcjlhaaGreatQC9
import Derived.Test.YtokkjaflmcjlhaaGreatQC10
namespace Go.Proofs.YtokkjaflmcjlhaaGreat
open Go.ChangeShapes Go.WideShapes Go.ChangeAt Go.RowKit
set_option linter.unusedVariables false
set_option linter.unusedSimpArgs false
set_option maxRecDepth 100000
set_option maxHeartbeats 4000000
abbrev xH (d:aV) (f:aN):AV × List (Nat × Rs):=(.own 0,[(0,.arr 3 1 true ((iV d f).map intD))])
abbrev aCo (d:aV) (f:aN):Prop:=dG Tryz.prog 232 [.agg [.sl 162 3 (d.tables.map aP)],.agg [.str f.name,.sl 3 1 (f.src.map intD),.int .i64 f.dst]] (xH d f).1 (xH d f).2
theorem aMW (d:aV) (f:aN) (hc:bF d≤1048576):aCo d f:=by
 refine aY bK aU Tryz.func232 (by kernel_rfl) (.call (vB (eA d f)) []<| .br (.fin []) (.call (.tup [.agg [.p none (.str (((aI d f.name).1).name)),vI (((aI d f.name).1).arity),.p none (.sl 32 1 ((((aI d f.name).1).rows).map aE))],vB ((aI d f.name).2)]) []<| .len ((((aI d f.name).1).rows).length)<| .loop Nat (Q1 Nat) [7,8,9,10,11,12,13,14,29,30,31,32,33,34,35,36,37,38,39,40,41,42,43,44,45,46,47,48,49,50,51,52,53,54,55,56,57,58,59,60,61,62,63,64,65,66,67,68,69,70,71,72,73,77,78] [4800,5500] (fun k=>[(29,vI (k:Int))]) (fun k=>[]) (fun k=>k≤(aI d f.name).1.rows.length∧kE (aI d f.name).1.rows f.src f.dst k= []) (fun k=>(aI d f.name).1.rows.length - k) (fun k=> .br (.elem _ aE (((aI d f.name).1).rows) (fun e32=> .sub (List Int) aE (((aI d f.name).1).rows)<| .len (((((aI d f.name).1).rows).take k).length)<| .loop Nat (Q1 Nat) [9,10,11,12,13,14,39,40,41,42,43,44,45,46,47,48,49,50,51,52,53,54,55,56,57,58,59,60,61,62,63,64,65,66,67,68,69,70,71,72,73,77] [4800,5500] (fun i=>[(39,vI (i:Int))]) (fun i=>[]) (fun i=>i≤k∧jS (aI d f.name).1.rows f.src f.dst k i= []) (fun i=>k - i) (fun i=> .br (.elem _ aE ((((aI d f.name).1).rows).take k) (fun e42=>cI (nD e42 f.src)<| cI (nD e32 f.src)<| .call (vB (decide (((eO e42 f.src).1)=((eO e32 f.src).1)))) []<| .br (.elem _ intD e42 (fun e65=> .elem _ intD e32 (fun e70=> .lit<| .lit<| .lit<| .br (.fin [(0,7600)]) (.back [])))) (.back []))) (.back [])))) (.fin [])))) (p:=(d.tables.map aP).length≤9223372036854775807→(f.src.map intD).length≤9223372036854775807→tY d f∧(((!(eA d f))=true→[]=(iV d f).map intD∧True)∧((!(eA d f))=false→dG Tryz.prog 148 [.agg [.sl 162 3 (d.tables.map aP)],.one (.str f.name)] (.tup [.agg [.p none (.str (((aI d f.name).1).name)),vI (((aI d f.name).1).arity),.p none (.sl 32 1 ((((aI d f.name).1).rows).map aE))],vB ((aI d f.name).2)]) []∧(Lm aE (((aI d f.name).1).rows)∧((∃(k:Nat),(0:Int)=(k:Int)∧k≤(aI d f.name).1.rows.length∧kE (aI d f.name).1.rows f.src f.dst k= [])∧ ∀(k:Nat),(k≤(aI d f.name).1.rows.length∧kE (aI d f.name).1.rows f.src f.dst k= [])→((decide ((k:Int)<(((((aI d f.name).1).rows).length:Nat):Int)))=true→0≤(k:Int)∧Em aE (((aI d f.name).1).rows) k fun e32=>(((aI d f.name).1).rows).map aE=(((aI d f.name).1).rows).map aE∧0≤(k:Int)∧(k:Int)≤(((((aI d f.name).1).rows).length:Nat):Int)∧(Lm aE ((((aI d f.name).1).rows).take k)∧((∃(i:Nat),(0:Int)=(i:Int)∧i≤k∧jS (aI d f.name).1.rows f.src f.dst k i= [])∧ ∀(i:Nat),(i≤k∧jS (aI d f.name).1.rows f.src f.dst k i= [])→((decide ((i:Int)<((((((aI d f.name).1).rows).take k).length:Nat):Int)))=true→0≤(i:Int)∧Em aE ((((aI d f.name).1).rows).take k) i fun e42=>qK e42 f.src∧(qK e32 f.src∧(pQ ((eO e42 f.src).1) ((eO e32 f.src).1)∧(((decide (((eO e42 f.src).1)=((eO e32 f.src).1)))=true→0≤f.dst∧Em intD e42 ((f.dst).toNat) fun e65=>0≤f.dst∧Em intD e32 ((f.dst).toNat) fun e70=>((!(decide (e65=e70)))=true→[[.int .i64 (i:Int)],[.int .i64 (k:Int)]]=(iV d f).map intD∧True)∧((!(decide (e65=e70)))=false→dB ((i:Int)+(1:Int))∧ ∃(i' :Nat),((i:Int)+(1:Int))=(i' :Int)∧(i' ≤k∧jS (aI d f.name).1.rows f.src f.dst k i' = [])∧k - i' <k - i))∧((decide (((eO e42 f.src).1)=((eO e32 f.src).1)))=false→dB ((i:Int)+(1:Int))∧ ∃(i' :Nat),((i:Int)+(1:Int))=(i' :Int)∧(i' ≤k∧jS (aI d f.name).1.rows f.src f.dst k i' = [])∧k - i' <k - i)))))∧((decide ((i:Int)<((((((aI d f.name).1).rows).take k).length:Nat):Int)))=false→dB ((k:Int)+(1:Int))∧ ∃(k' :Nat),((k:Int)+(1:Int))=(k' :Int)∧(k' ≤(aI d f.name).1.rows.length∧kE (aI d f.name).1.rows f.src f.dst k' = [])∧(aI d f.name).1.rows.length - k' <(aI d f.name).1.rows.length - k))))∧((decide ((k:Int)<(((((aI d f.name).1).rows).length:Nat):Int)))=false→[]=(iV d f).map intD∧True)))))) (by kernel_rfl) ?_
 intro n0 n1
 simp only [List.length_map] at n0 n1
 refine ⟨aEs _ _ (by omega),fun c0=>?_,fun c0=>?_⟩
 ·replace c0:=nt c0
  have hbad:iV d f= []:=by rw [iV,if_neg (by simpa using c0)]
  refine ⟨?_,trivial⟩
  ·first | (rw [hbad]<;>rfl) | (rw [hE]<;>rfl) | (rw [hV,hE]<;>rfl)
 ·replace c0:=nf c0
  have hok:eA d f=true:=by simpa using c0
  obtain ⟨hT,hd0,hd1,hsl⟩:=aCe hok
  have hT8:=bZ hT
  have hV:iV d f=kE (aI d f.name).1.rows f.src f.dst (aI d f.name).1.rows.length:=by rw [iV,if_pos hok]
  refine ⟨iX (qO _ f.name (by omega)) rfl,List.length_map _,⟨0,rfl,Nat.zero_le _,rfl⟩,fun k ⟨hk,hv⟩=>?_⟩
  refine ⟨fun c1=>?_,fun c1=>?_⟩
  ·replace c1:=yq c1
   refine ⟨by omega,rfl,by first | omega | (simp only [List.length_take];omega),fun e32 h32=>?_⟩
   have hl32:=nS hT (List.mem_of_getElem? h32)
   refine ⟨rfl,by omega,by first | omega | (simp only [List.length_take];omega),List.length_map _,⟨0,rfl,Nat.zero_le _,rfl⟩,fun i ⟨hi,hw⟩=>?_⟩
   have htl:((aI d f.name).1.rows.take k).length=k:=by rw [List.length_take];omega
   refine ⟨fun c2=>?_,fun c2=>?_⟩
   ·replace c2:=yq c2
    refine ⟨by omega,rfl,by first | omega | (simp only [List.length_take];omega),fun e42 h42=>?_⟩
    have hx:(aI d f.name).1.rows[i]? =some e42:=by rw [List.getElem?_take_of_lt (by omega)] at h42;exact h42
    have hl42:=nS hT (List.mem_of_getElem? hx)
    have hb:=aLL (cols:=f.src) (c:=f.dst) hx h32
    refine ⟨aBI _ _ (by omega),aBI _ _ (by omega),aBD _ _,fun g61=>?_,fun g61=>?_⟩
    ·replace g61:=yq g61
     refine ⟨by omega,rfl,by first | omega | (simp only [List.length_take];omega),fun e65 h65=>?_⟩
     refine ⟨by omega,rfl,by first | omega | (simp only [List.length_take];omega),fun e70 h70=>?_⟩
     refine ⟨fun c3=>?_,fun c3=>?_⟩
     ·replace c3:=nq (nt c3)
      have hB:aKP (aI d f.name).1.rows f.src f.dst i k=true:=by rw [hb,bD h65,bD h70];simp [*]
      have hE:=aEq hv hw hB (by omega) (by omega:k<(aI d f.name).1.rows.length)
      refine ⟨?_,trivial⟩
      ·first | (rw [hbad]<;>rfl) | (rw [hE]<;>rfl) | (rw [hV,hE]<;>rfl)
     ·replace c3:=yq (nf c3)
      refine ⟨⟨by omega,by omega⟩,?_⟩
      exact ⟨i+1,rfl,⟨by omega,aBU hw (by rw [hb];first | (simp [g61];done) | (rw [bD h65,bD h70];simp [*];done))⟩,by omega⟩
    ·replace g61:=nq g61
     refine ⟨⟨by omega,by omega⟩,?_⟩
     exact ⟨i+1,rfl,⟨by omega,aBU hw (by rw [hb];first | (simp [g61];done) | (rw [bD h65,bD h70];simp [*];done))⟩,by omega⟩
   ·replace c2:=nq c2
    refine ⟨⟨by omega,by omega⟩,?_⟩
    exact ⟨k+1,rfl,⟨by omega,aEr hv (by obtain rfl:i=k:=(by omega);exact hw)⟩,by omega⟩
  ·replace c1:=nq c1
   have hE:iV d f= []:=by rw [hV,show (aI d f.name).1.rows.length=k by omega,hv]
   refine ⟨?_,trivial⟩
   ·first | (rw [hbad]<;>rfl) | (rw [hE]<;>rfl) | (rw [hV,hE]<;>rfl)
abbrev xI (d:aV) (f:aN):AV × List (Nat × Rs):=(.own 0,[(0,.arr 3 1 true ((iV d f).map intD))])
abbrev aCp (d:aV) (f:aN):Prop:=dG Tryz.prog 213 [.agg [.sl 162 3 (d.tables.map aP)],.agg [.str f.name,.sl 3 1 (f.src.map intD),.int .i64 f.dst]] (xI d f).1 (xI d f).2
theorem aMX (d:aV) (f:aN) (hc:bF d≤1048576):aCp d f:=by
 refine aY bK aU Tryz.func213 (by kernel_rfl) (.call (.tup [.agg [.p none (.str (((aI d f.name).1).name)),vI (((aI d f.name).1).arity),.p none (.sl 32 1 ((((aI d f.name).1).rows).map aE))],vB ((aI d f.name).2)]) []<| .loop Nat (Q1 Nat) [7,8,9,10,11,12,20,21,22,23,24,25,26,27,28,29,30,31,32,33,34,35,36,37,38,39,40,41,42,43,44,45,46,47,48,49,50,51,52,53,54,55,56,57,58,59,60,61,62,63,64,65,66,67,68,69,70,71,72,73,74,75,76,77,78,79,80,81,82,83] [4000,5600] (fun k=>[(7,vI (k:Int))]) (fun k=>[]) (fun k=>k≤(aI d f.name).1.rows.length∧kE (aI d f.name).1.rows f.src f.dst k= []) (fun k=>(aI d f.name).1.rows.length - k) (fun k=> .len ((((aI d f.name).1).rows).length)<| .br (.call (vB (eA d f)) []<| .lit<| .br (.elem _ aE (((aI d f.name).1).rows) (fun e36=>cI (nE e36 f.src)<| .loop Nat (Q1 Nat) [10,11,12,43,44,45,46,47,48,49,50,51,52,53,54,55,56,57,58,59,60,61,62,63,64,65,66,67,68,69,70,71,72,73,74,75,76,77,78,79,80,81,82,83] [5600] (fun i=>[(10,vI (i:Int))]) (fun i=>[]) (fun i=>i≤k∧jS (aI d f.name).1.rows f.src f.dst k i= []) (fun i=>k - i) (fun i=> .br (.elem _ aE (((aI d f.name).1).rows) (fun e52=>cI (nE e52 f.src)<| .call (vI (bV ((eO e52 f.src).1) ((eO e36 f.src).1))) []<| .br (.elem _ aE (((aI d f.name).1).rows) (fun e67=> .elem _ intD e67 (fun e71=> .elem _ aE (((aI d f.name).1).rows) (fun e76=> .elem _ intD e76 (fun e80=> .lit<| .lit<| .lit<| .br (.fin [(0,8600)]) (.back [])))))) (.back []))) (.back [])))) (.fin [(0,8700)])) (.fin [(0,8700)]))) (p:=(d.tables.map aP).length≤9223372036854775807→(f.src.map intD).length≤9223372036854775807→dG Tryz.prog 132 [.agg [.sl 162 3 (d.tables.map aP)],.one (.str f.name)] (.tup [.agg [.p none (.str (((aI d f.name).1).name)),vI (((aI d f.name).1).arity),.p none (.sl 32 1 ((((aI d f.name).1).rows).map aE))],vB ((aI d f.name).2)]) []∧((∃(k:Nat),(0:Int)=(k:Int)∧k≤(aI d f.name).1.rows.length∧kE (aI d f.name).1.rows f.src f.dst k= [])∧ ∀(k:Nat),(k≤(aI d f.name).1.rows.length∧kE (aI d f.name).1.rows f.src f.dst k= [])→Lm aE (((aI d f.name).1).rows)∧(((decide ((k:Int)<(((((aI d f.name).1).rows).length:Nat):Int)))=true→tZ d f∧(((eA d f)=true→0≤(k:Int)∧Em aE (((aI d f.name).1).rows) k fun e36=>qL e36 f.src∧((∃(i:Nat),(0:Int)=(i:Int)∧i≤k∧jS (aI d f.name).1.rows f.src f.dst k i= [])∧ ∀(i:Nat),(i≤k∧jS (aI d f.name).1.rows f.src f.dst k i= [])→((decide ((i:Int)<(k:Int)))=true→0≤(i:Int)∧Em aE (((aI d f.name).1).rows) i fun e52=>qL e52 f.src∧(fM ((eO e52 f.src).1) ((eO e36 f.src).1)∧(((decide ((bV ((eO e52 f.src).1) ((eO e36 f.src).1))=(0:Int)))=true→0≤(i:Int)∧Em aE (((aI d f.name).1).rows) i fun e67=>0≤f.dst∧Em intD e67 ((f.dst).toNat) fun e71=>0≤(k:Int)∧Em aE (((aI d f.name).1).rows) k fun e76=>0≤f.dst∧Em intD e76 ((f.dst).toNat) fun e80=>((!(decide (e71=e80)))=true→[[.int .i64 (i:Int)],[.int .i64 (k:Int)]]=(iV d f).map intD∧True)∧((!(decide (e71=e80)))=false→dB ((i:Int)+(1:Int))∧ ∃(i' :Nat),((i:Int)+(1:Int))=(i' :Int)∧(i' ≤k∧jS (aI d f.name).1.rows f.src f.dst k i' = [])∧k - i' <k - i))∧((decide ((bV ((eO e52 f.src).1) ((eO e36 f.src).1))=(0:Int)))=false→dB ((i:Int)+(1:Int))∧ ∃(i' :Nat),((i:Int)+(1:Int))=(i' :Int)∧(i' ≤k∧jS (aI d f.name).1.rows f.src f.dst k i' = [])∧k - i' <k - i))))∧((decide ((i:Int)<(k:Int)))=false→dB ((k:Int)+(1:Int))∧ ∃(k' :Nat),((k:Int)+(1:Int))=(k' :Int)∧(k' ≤(aI d f.name).1.rows.length∧kE (aI d f.name).1.rows f.src f.dst k' = [])∧(aI d f.name).1.rows.length - k' <(aI d f.name).1.rows.length - k)))∧((eA d f)=false→[]=(iV d f).map intD∧True)))∧((decide ((k:Int)<(((((aI d f.name).1).rows).length:Nat):Int)))=false→[]=(iV d f).map intD∧True)))) (by kernel_rfl) ?_
 intro n0 n1
 simp only [List.length_map] at n0 n1
 refine ⟨iX (qP _ f.name (by omega)) rfl,⟨0,rfl,Nat.zero_le _,rfl⟩,fun k ⟨hk,hv⟩=>?_⟩
 refine ⟨List.length_map _,fun g25=>?_,fun g25=>?_⟩
 ·replace g25:=yq g25
  refine ⟨aEt _ _ (by omega),fun c0=>?_,fun c0=>?_⟩
  ·have hok:eA d f=true:=c0
   obtain ⟨hT,hd0,hd1,hsl⟩:=aCe hok
   have hT8:=bZ hT
   have hV:iV d f=kE (aI d f.name).1.rows f.src f.dst (aI d f.name).1.rows.length:=by rw [iV,if_pos hok]
   refine ⟨by omega,rfl,by omega,fun e36 h36=>?_⟩
   have hl36:=nS hT (List.mem_of_getElem? h36)
   refine ⟨aBJ _ _ (by omega),⟨0,rfl,Nat.zero_le _,rfl⟩,fun i ⟨hi,hw⟩=>?_⟩
   refine ⟨fun c1=>?_,fun c1=>?_⟩
   ·replace c1:=yq c1
    refine ⟨by omega,rfl,by omega,fun e52 h52=>?_⟩
    have hl52:=nS hT (List.mem_of_getElem? h52)
    have hb:=aLL (cols:=f.src) (c:=f.dst) h52 h36
    refine ⟨aBJ _ _ (by omega),iI _ _,fun g63=>?_,fun g63=>?_⟩
    ·replace g63:=yq g63
     refine ⟨by omega,rfl,by omega,fun e67 h67=>?_⟩
     obtain rfl:=(bA h52 h67).symm
     refine ⟨by omega,rfl,by omega,fun e71 h71=>?_⟩
     refine ⟨by omega,rfl,by omega,fun e76 h76=>?_⟩
     obtain rfl:=(bA h36 h76).symm
     refine ⟨by omega,rfl,by omega,fun e80 h80=>?_⟩
     refine ⟨fun c2=>?_,fun c2=>?_⟩
     ·replace c2:=nq (nt c2)
      have hB:aKP (aI d f.name).1.rows f.src f.dst i k=true:=by rw [hb,bD h71,bD h80,eI.1 g63];simp [c2]
      have hE:=aEq hv hw hB (by omega) (by omega:k<(aI d f.name).1.rows.length)
      refine ⟨?_,trivial⟩
      ·first | (rw [hE]<;>rfl) | (rw [hV,hE]<;>rfl)
     ·replace c2:=yq (nf c2)
      refine ⟨⟨by omega,by omega⟩,?_⟩
      exact ⟨i+1,rfl,⟨by omega,aBU hw (by rw [hb];first | (simp [show ¬(eO e52 f.src).1=(eO e36 f.src).1 from fun q=>g63 (eI.2 q)];done) | (rw [bD h71,bD h80];simp [c2];done))⟩,by omega⟩
    ·replace g63:=nq g63
     refine ⟨⟨by omega,by omega⟩,?_⟩
     exact ⟨i+1,rfl,⟨by omega,aBU hw (by rw [hb];first | (simp [show ¬(eO e52 f.src).1=(eO e36 f.src).1 from fun q=>g63 (eI.2 q)];done) | (rw [bD h71,bD h80];simp [c2];done))⟩,by omega⟩
   ·replace c1:=nq c1
    refine ⟨⟨by omega,by omega⟩,?_⟩
    exact ⟨k+1,rfl,⟨by omega,aEr hv (by obtain rfl:i=k:=(by omega);exact hw)⟩,by omega⟩
  ·have hE:iV d f= []:=by first | (rw [iV,if_neg (by rw [c0];decide)];done) | (rw [iV];split<;>first | (rw [show (aI d f.name).1.rows.length=k by omega,hv];done) | rfl)
   refine ⟨?_,trivial⟩
   ·first | (rw [hE]<;>rfl) | (rw [hV,hE]<;>rfl)
 ·replace g25:=nq g25
  have hE:iV d f= []:=by first | (rw [iV,if_neg (by rw [c0];decide)];done) | (rw [iV];split<;>first | (rw [show (aI d f.name).1.rows.length=k by omega,hv];done) | rfl)
  refine ⟨?_,trivial⟩
  ·first | (rw [hE]<;>rfl) | (rw [hV,hE]<;>rfl)
abbrev aBY (d:aV) (f:aN):Prop:=dG Tryz.prog 152 [.agg [.sl 162 3 (d.tables.map aP)],.agg [.str f.name,.sl 3 1 (f.src.map intD),.int .i64 f.dst]] (vB (gY d f)) []
theorem aKV (d:aV) (f:aN) (hc:bF d≤1048576):aBY d f:=by
 refine aY bK aU Tryz.func152 (by kernel_rfl) (.call (vB (eA d f)) []<| .br (cI (xH d f)<| .len ((iV d f).length)<| .fin []) (.fin [])) (p:=(d.tables.map aP).length≤9223372036854775807→(f.src.map intD).length≤9223372036854775807→tY d f∧(((eA d f)=true→aCo d f∧Lm intD (iV d f)∧(decide ((((iV d f).length:Nat):Int)=(0:Int)))=(gY d f)∧True)∧((eA d f)=false→(false)=(gY d f)∧True))) (by kernel_rfl) ?_
 intro n0 n1
 simp only [List.length_map] at n0 n1
 refine ⟨aEs _ _ (by omega),fun g8=>?_,fun g8=>?_⟩
 ·refine ⟨aMW _ _ (by omega),List.length_map _,?_,trivial⟩
  ·first | (simp [gY, *];done) | (rw [gY,g8,oN];rfl)
 ·refine ⟨?_,trivial⟩
  ·first | (simp [gY, *];done) | (rw [gY,g8,oN];rfl)
abbrev aBZ (d:aV) (f:aN):Prop:=dG Tryz.prog 136 [.agg [.sl 162 3 (d.tables.map aP)],.agg [.str f.name,.sl 3 1 (f.src.map intD),.int .i64 f.dst]] (vB (gY d f)) []
theorem aKW (d:aV) (f:aN) (hc:bF d≤1048576):aBZ d f:=by
 refine aY bK aU Tryz.func136 (by kernel_rfl) (.call (vB (eA d f)) []<| .br (cI (xI d f)<| .len ((iV d f).length)<| .fin []) (.fin [])) (p:=(d.tables.map aP).length≤9223372036854775807→(f.src.map intD).length≤9223372036854775807→tZ d f∧(((eA d f)=true→aCp d f∧Lm intD (iV d f)∧(decide ((((iV d f).length:Nat):Int)=(0:Int)))=(gY d f)∧True)∧((eA d f)=false→(false)=(gY d f)∧True))) (by kernel_rfl) ?_
 intro n0 n1
 simp only [List.length_map] at n0 n1
 refine ⟨aEt _ _ (by omega),fun g8=>?_,fun g8=>?_⟩
 ·refine ⟨aMX _ _ (by omega),List.length_map _,?_,trivial⟩
  ·first | (simp [gY, *];done) | (rw [gY,g8,oN];rfl)
 ·refine ⟨?_,trivial⟩
  ·first | (simp [gY, *];done) | (rw [gY,g8,oN];rfl)
abbrev xJ (d:aV) (x:aL):AV × List (Nat × Rs):=(.own 0,[(0,.arr 3 1 true ((uT d x).map intD))])
abbrev aCq (d:aV) (x:aL):Prop:=dG Tryz.prog 234 [.agg [.sl 162 3 (d.tables.map aP)],.agg [.str x.name,.int .i64 x.column,.str x.into,.int .i64 x.intoColumn]] (xJ d x).1 (xJ d x).2
theorem aMY (d:aV) (x:aL) (hc:bF d≤1048576):aCq d x:=by
 refine aY bK aU Tryz.func234 (by kernel_rfl) (.call (vB (dX d x)) []<| .br (.fin []) (.call (.tup [.agg [.p none (.str (((aI d x.name).1).name)),vI (((aI d x.name).1).arity),.p none (.sl 32 1 ((((aI d x.name).1).rows).map aE))],vB ((aI d x.name).2)]) []<| .call (.tup [.agg [.p none (.str (((aI d x.into).1).name)),vI (((aI d x.into).1).arity),.p none (.sl 32 1 ((((aI d x.into).1).rows).map aE))],vB ((aI d x.into).2)]) []<| .len ((((aI d x.into).1).rows).length)<| .loop (Nat × (List Int)) (Q2 Nat (List Int)) [9,11,34,38,39,40,41,42,43,44,45,46,47,48,49,50] [3400,4800,4900] (fun yy0=>[(38,vI (yy0.1:Int)),(9,.own 3400)]) (fun yy0=>[(3400,some (.arr 3 1 true (yy0.2.map intD)))]) (fun yy0=>yy0.1≤(aI d x.into).1.rows.length∧yy0.2=gQ ((aI d x.into).1.rows.take yy0.1) x.intoColumn) (fun yy0=>(aI d x.into).1.rows.length - yy0.1) (fun yy0=> .br (.elem _ aE (((aI d x.into).1).rows) (fun e40=> .elem _ intD e40 (fun e46=> .app Int intD yy0.2 ([e46]:List Int)<| .back [(3400,4900)]))) (.len ((((aI d x.name).1).rows).length)<| .loop (Nat × (List Int)) (Q2 Nat (List Int)) [12,14,15,51,55,56,57,58,59,60,61,62,63,64,65,66,67,68,69,70,71,72] [5100,7000,7100] (fun yy1=>[(55,vI (yy1.1:Int)),(12,.own 5100)]) (fun yy1=>[(5100,some (.arr 3 1 true (yy1.2.map intD)))]) (fun yy1=>yy1.1≤(aI d x.name).1.rows.length∧yy1.2=(gQ ((aI d x.name).1.rows.take yy1.1) x.column).filter fun v=> !decide (v∈yy0.2)) (fun yy1=>(aI d x.name).1.rows.length - yy1.1) (fun yy1=> .br (.elem _ aE (((aI d x.name).1).rows) (fun e57=> .elem _ intD e57 (fun e62=> .call (vB (decide (e62∈yy0.2))) []<| .br (.app Int intD yy1.2 ([e62]:List Int)<| .back [(5100,7100)]) (.back [(5100,5100)])))) (.callx [.own 0] [(0,.arr 3 1 true (yy1.2.map intD))] [(0,5100)] (.tup []) [(0,.arr 3 1 true ((iW yy1.2).map intD))]<| .callx [.own 0] [(0,.arr 3 1 true ((iW yy1.2).map intD))] [(0,5100)] (.own 1) [(1,.arr 3 1 true ((rT (iW yy1.2)).map intD))]<| .fin [(0,7601)])))))) (p:=(d.tables.map aP).length≤9223372036854775807→uB d x∧(((!(dX d x))=true→[]=(uT d x).map intD∧True)∧((!(dX d x))=false→dG Tryz.prog 148 [.agg [.sl 162 3 (d.tables.map aP)],.one (.str x.name)] (.tup [.agg [.p none (.str (((aI d x.name).1).name)),vI (((aI d x.name).1).arity),.p none (.sl 32 1 ((((aI d x.name).1).rows).map aE))],vB ((aI d x.name).2)]) []∧(dG Tryz.prog 148 [.agg [.sl 162 3 (d.tables.map aP)],.one (.str x.into)] (.tup [.agg [.p none (.str (((aI d x.into).1).name)),vI (((aI d x.into).1).arity),.p none (.sl 32 1 ((((aI d x.into).1).rows).map aE))],vB ((aI d x.into).2)]) []∧(Lm aE (((aI d x.into).1).rows)∧((∃(k:Nat) (there:List Int),(0:Int)=(k:Int)∧[]=there.map intD∧k≤(aI d x.into).1.rows.length∧there=gQ ((aI d x.into).1.rows.take k) x.intoColumn)∧ ∀(k:Nat) (there:List Int),(k≤(aI d x.into).1.rows.length∧there=gQ ((aI d x.into).1.rows.take k) x.intoColumn)→((decide ((k:Int)<(((((aI d x.into).1).rows).length:Nat):Int)))=true→0≤(k:Int)∧Em aE (((aI d x.into).1).rows) k fun e40=>0≤x.intoColumn∧Em intD e40 ((x.intoColumn).toNat) fun e46=>there.map intD=there.map intD∧[[.int .i64 e46]]=([e46]:List Int).map intD∧(∀x,eC (intD x)=true)∧(there.length+([e46]:List Int).length)*8≤140737488355328∧dB ((k:Int)+(1:Int))∧ ∃(k' :Nat) (there' :List Int),((k:Int)+(1:Int))=(k' :Int)∧(there++[e46]).map intD=there'.map intD∧(k' ≤(aI d x.into).1.rows.length∧there' =gQ ((aI d x.into).1.rows.take k') x.intoColumn)∧(aI d x.into).1.rows.length - k' <(aI d x.into).1.rows.length - k)∧((decide ((k:Int)<(((((aI d x.into).1).rows).length:Nat):Int)))=false→Lm aE (((aI d x.name).1).rows)∧((∃(j:Nat) (out:List Int),(0:Int)=(j:Int)∧[]=out.map intD∧j≤(aI d x.name).1.rows.length∧out=(gQ ((aI d x.name).1.rows.take j) x.column).filter fun v=> !decide (v∈there))∧ ∀(j:Nat) (out:List Int),(j≤(aI d x.name).1.rows.length∧out=(gQ ((aI d x.name).1.rows.take j) x.column).filter fun v=> !decide (v∈there))→((decide ((j:Int)<(((((aI d x.name).1).rows).length:Nat):Int)))=true→0≤(j:Int)∧Em aE (((aI d x.name).1).rows) j fun e57=>0≤x.column∧Em intD e57 ((x.column).toNat) fun e62=>aLK there e62∧(((!(decide (e62∈there)))=true→out.map intD=out.map intD∧[[.int .i64 e62]]=([e62]:List Int).map intD∧(∀x,eC (intD x)=true)∧(out.length+([e62]:List Int).length)*8≤140737488355328∧dB ((j:Int)+(1:Int))∧ ∃(j' :Nat) (out' :List Int),((j:Int)+(1:Int))=(j' :Int)∧(out++[e62]).map intD=out'.map intD∧(j' ≤(aI d x.name).1.rows.length∧out' =(gQ ((aI d x.name).1.rows.take j') x.column).filter fun v=> !decide (v∈there))∧(aI d x.name).1.rows.length - j' <(aI d x.name).1.rows.length - j)∧((!(decide (e62∈there)))=false→dB ((j:Int)+(1:Int))∧ ∃(j' :Nat) (out' :List Int),((j:Int)+(1:Int))=(j' :Int)∧out.map intD=out'.map intD∧(j' ≤(aI d x.name).1.rows.length∧out' =(gQ ((aI d x.name).1.rows.take j') x.column).filter fun v=> !decide (v∈there))∧(aI d x.name).1.rows.length - j' <(aI d x.name).1.rows.length - j)))∧((decide ((j:Int)<(((((aI d x.name).1).rows).length:Nat):Int)))=false→lX Tryz.prog 248 [.own 0] [(0,.arr 3 1 true (out.map intD))] (.tup []) [(0,.arr 3 1 true ((iW out).map intD))]∧out.map intD=out.map intD∧lX Tryz.prog 273 [.own 0] [(0,.arr 3 1 true ((iW out).map intD))] (.own 1) [(1,.arr 3 1 true ((rT (iW out)).map intD))]∧(iW out).map intD=(iW out).map intD∧(rT (iW out)).map intD=(uT d x).map intD∧True))))))))) (by kernel_rfl) ?_
 intro n0
 simp only [List.length_map] at n0
 refine ⟨aEv _ _ (by omega),fun c0=>?_,fun c0=>?_⟩
 ·replace c0:=nt c0
  have hbad:uT d x= []:=by rw [uT,if_neg (by simpa using c0)]
  refine ⟨?_,trivial⟩
  ·first | (rw [hbad]<;>rfl) | (rw [hE]<;>rfl)
 ·replace c0:=nf c0
  have hok:dX d x=true:=by simpa using c0
  obtain ⟨hTa,hTb,hca,hcb⟩:=xC hok
  have hA8:=bZ hTa
  have hB8:=bZ hTb
  refine ⟨iX (qO _ x.name (by omega)) rfl,iX (qO _ x.into (by omega)) rfl,List.length_map _,⟨0,([]:List Int),rfl,rfl,Nat.zero_le _,rfl⟩,fun k there ⟨hk,hth⟩=>?_⟩
  have htl:there.length=k:=by rw [hth,gQ,List.length_map,List.length_take];omega
  refine ⟨fun c1=>?_,fun c1=>?_⟩
  ·replace c1:=yq c1
   refine ⟨by omega,rfl,by omega,fun e40 h40=>?_⟩
   have hl40:=nS hTb (List.mem_of_getElem? h40)
   refine ⟨by omega,rfl,by omega,fun e46 h46=>?_⟩
   refine ⟨rfl,rfl,fun _=>rfl,by first | omega | (simp [hth];omega) | (simp;omega),?_⟩
   refine ⟨⟨by omega,by omega⟩,?_⟩
   exact ⟨k+1,_,rfl,rfl,⟨by omega,by rw [lM _ _ h40,←hth,bD h46]⟩,by omega⟩
  ·replace c1:=nq c1
   have hTH:there=gQ (aI d x.into).1.rows x.intoColumn:=by rw [hth,List.take_of_length_le (by omega)]
   refine ⟨List.length_map _,⟨0,([]:List Int),rfl,rfl,Nat.zero_le _,rfl⟩,fun j out ⟨hj,ho⟩=>?_⟩
   have hol:out.length≤j:=by rw [ho];refine Nat.le_trans (List.length_filter_le _ _) ?_;simp [gQ];omega
   refine ⟨fun c2=>?_,fun c2=>?_⟩
   ·replace c2:=yq c2
    refine ⟨by omega,rfl,by omega,fun e57 h57=>?_⟩
    have hl57:=nS hTa (List.mem_of_getElem? h57)
    refine ⟨by omega,rfl,by omega,fun e62 h62=>?_⟩
    refine ⟨ctI _ _,fun c3=>?_,fun c3=>?_⟩
    ·replace c3:=nt c3
     refine ⟨rfl,rfl,fun _=>rfl,by first | omega | (simp [hth];omega) | (simp;omega),?_⟩
     refine ⟨⟨by omega,by omega⟩,?_⟩
     exact ⟨j+1,_,rfl,rfl,⟨by omega,by rw [lM _ _ h57,List.filter_append,←ho,bD h62,List.filter_cons_of_pos (by simpa using c3)];rfl⟩,by omega⟩
    ·replace c3:=nf c3
     refine ⟨⟨by omega,by omega⟩,?_⟩
     exact ⟨j+1,_,rfl,rfl,⟨by omega,by rw [lM _ _ h57,List.filter_append,←ho,bD h62,List.filter_cons_of_neg (by simpa using c3)];simp⟩,by omega⟩
   ·replace c2:=nq c2
    have hE:uT d x=rT (iW out):=by rw [uT,if_pos hok,aCf,ho,hTH,List.take_of_length_le (by omega)]
    refine ⟨aHC out (by omega),rfl,aMF (iW out) (by first | omega | (rw [sW];omega)),rfl,?_,trivial⟩
    ·first | (rw [hbad]<;>rfl) | (rw [hE]<;>rfl)
abbrev aB0 (d:aV) (x:aL):Prop:=dG Tryz.prog 153 [.agg [.sl 162 3 (d.tables.map aP)],.agg [.str x.name,.int .i64 x.column,.str x.into,.int .i64 x.intoColumn]] (vB (gZ d x)) []
theorem aKX (d:aV) (x:aL) (hc:bF d≤1048576):aB0 d x:=by
 refine aY bK aU Tryz.func153 (by kernel_rfl) (.call (vB (dX d x)) []<| .br (cI (xJ d x)<| .len ((uT d x).length)<| .fin []) (.fin [])) (p:=(d.tables.map aP).length≤9223372036854775807→uB d x∧(((dX d x)=true→aCq d x∧Lm intD (uT d x)∧(decide ((((uT d x).length:Nat):Int)=(0:Int)))=(gZ d x)∧True)∧((dX d x)=false→(false)=(gZ d x)∧True))) (by kernel_rfl) ?_
 intro n0
 simp only [List.length_map] at n0
 refine ⟨aEv _ _ (by omega),fun g8=>?_,fun g8=>?_⟩
 ·refine ⟨aMY _ _ (by omega),List.length_map _,?_,trivial⟩
  ·first | (simp [gZ, *];done) | (rw [gZ,g8,oN,aHE g8];rfl)
 ·refine ⟨?_,trivial⟩
  ·first | (simp [gZ, *];done) | (rw [gZ,g8,oN,aHE g8];rfl)
abbrev xK (d:aV) (x:aL):AV × List (Nat × Rs):=(.own 0,[(0,.arr 3 1 true ((uU d x).map intD))])
abbrev aCr (d:aV) (x:aL):Prop:=dG Tryz.prog 215 [.agg [.sl 162 3 (d.tables.map aP)],.agg [.str x.name,.int .i64 x.column,.str x.into,.int .i64 x.intoColumn]] (xK d x).1 (xK d x).2
theorem aMZ (d:aV) (x:aL) (hc:bF d≤1048576):aCr d x:=by
 refine aY bK aU Tryz.func215 (by kernel_rfl) (.call (vB (dX d x)) []<| .br (.fin [(0,1500)]) (.call (.tup [.agg [.p none (.str (((aI d x.name).1).name)),vI (((aI d x.name).1).arity),.p none (.sl 32 1 ((((aI d x.name).1).rows).map aE))],vB ((aI d x.name).2)]) []<| .call (.tup [.agg [.p none (.str (((aI d x.into).1).name)),vI (((aI d x.into).1).arity),.p none (.sl 32 1 ((((aI d x.into).1).rows).map aE))],vB ((aI d x.into).2)]) []<| .loop (Nat × (List Int)) (Q2 Nat (List Int)) [5,10,11,12,13,14,15,35,36,37,38,39,40,41,42,43,44,45,46,47,48,49,50,51,52,53,54,55,56,57,58,59,60,61,62,63,64,65,66,67,68,69,70,71,72,73,74,75,76,77,78,79,80,81,82,83,84,85,86,87,88,89] [1500,8800,8900] (fun yy0=>[(10,vI (yy0.1:Int)),(5,.own 1500)]) (fun yy0=>[(1500,some (.arr 3 1 true (yy0.2.map intD)))]) (fun yy0=>yy0.1≤10∧yy0.2=mQ d x yy0.1) (fun yy0=>10 - yy0.1) (fun yy0=> .br (.loop (Nat × Bool) (Q2 Nat Bool) [11,13,39,40,41,42,43,44,45,46,47,48,49,50,51,52,53,54,55,56,57,58,59] [] (fun yy1=>[(13,vI (yy1.1:Int)),(11,vB yy1.2)]) (fun yy1=>[]) (fun yy1=>yy1.1≤(aI d x.name).1.rows.length∧yy1.2=decide ((yy0.1:Int)∈gQ ((aI d x.name).1.rows.take yy1.1) x.column)) (fun yy1=>(aI d x.name).1.rows.length - yy1.1) (fun yy1=> .len ((((aI d x.name).1).rows).length)<| .br (.br (.back []) (.elem _ aE (((aI d x.name).1).rows) (fun e51=> .elem _ intD e51 (fun e55=> .back [])))) (.loop (Nat × Bool) (Q2 Nat Bool) [12,14,60,61,62,63,64,65,66,67,68,69,70,71,72,73,74,75,76,77,78,79,80] [] (fun yy2=>[(14,vI (yy2.1:Int)),(12,vB yy2.2)]) (fun yy2=>[]) (fun yy2=>yy2.1≤(aI d x.into).1.rows.length∧yy2.2=decide ((yy0.1:Int)∈gQ ((aI d x.into).1.rows.take yy2.1) x.intoColumn)) (fun yy2=>(aI d x.into).1.rows.length - yy2.1) (fun yy2=> .len ((((aI d x.into).1).rows).length)<| .br (.br (.back []) (.elem _ aE (((aI d x.into).1).rows) (fun e72=> .elem _ intD e72 (fun e76=> .back [])))) (.br (.lit<| .lit<| .br (.app Int intD yy0.2 ([(yy0.1:Int)]:List Int)<| .back [(1500,8900)]) (.back [(1500,1500)])) (.back [(1500,1500)])))))) (.fin [(0,1500)])))) (p:=(d.tables.map aP).length≤9223372036854775807→uC d x∧(((!(dX d x))=true→[]=(uU d x).map intD∧True)∧((!(dX d x))=false→dG Tryz.prog 132 [.agg [.sl 162 3 (d.tables.map aP)],.one (.str x.name)] (.tup [.agg [.p none (.str (((aI d x.name).1).name)),vI (((aI d x.name).1).arity),.p none (.sl 32 1 ((((aI d x.name).1).rows).map aE))],vB ((aI d x.name).2)]) []∧(dG Tryz.prog 132 [.agg [.sl 162 3 (d.tables.map aP)],.one (.str x.into)] (.tup [.agg [.p none (.str (((aI d x.into).1).name)),vI (((aI d x.into).1).arity),.p none (.sl 32 1 ((((aI d x.into).1).rows).map aE))],vB ((aI d x.into).2)]) []∧((∃(v:Nat) (out:List Int),(0:Int)=(v:Int)∧[]=out.map intD∧v≤10∧out=mQ d x v)∧ ∀(v:Nat) (out:List Int),(v≤10∧out=mQ d x v)→((decide ((v:Int)≤(9:Int)))=true→(∃(k:Nat) (p:Bool),(0:Int)=(k:Int)∧(false)=p∧k≤(aI d x.name).1.rows.length∧p=decide ((v:Int)∈gQ ((aI d x.name).1.rows.take k) x.column))∧ ∀(k:Nat) (p:Bool),(k≤(aI d x.name).1.rows.length∧p=decide ((v:Int)∈gQ ((aI d x.name).1.rows.take k) x.column))→Lm aE (((aI d x.name).1).rows)∧(((decide ((k:Int)<(((((aI d x.name).1).rows).length:Nat):Int)))=true→((p)=true→dB ((k:Int)+(1:Int))∧ ∃(k' :Nat) (p' :Bool),((k:Int)+(1:Int))=(k' :Int)∧(true)=p' ∧(k' ≤(aI d x.name).1.rows.length∧p' =decide ((v:Int)∈gQ ((aI d x.name).1.rows.take k') x.column))∧(aI d x.name).1.rows.length - k' <(aI d x.name).1.rows.length - k)∧((p)=false→0≤(k:Int)∧Em aE (((aI d x.name).1).rows) k fun e51=>0≤x.column∧Em intD e51 ((x.column).toNat) fun e55=>dB ((k:Int)+(1:Int))∧ ∃(k' :Nat) (p' :Bool),((k:Int)+(1:Int))=(k' :Int)∧(decide (e55=(v:Int)))=p' ∧(k' ≤(aI d x.name).1.rows.length∧p' =decide ((v:Int)∈gQ ((aI d x.name).1.rows.take k') x.column))∧(aI d x.name).1.rows.length - k' <(aI d x.name).1.rows.length - k))∧((decide ((k:Int)<(((((aI d x.name).1).rows).length:Nat):Int)))=false→(∃(j:Nat) (q:Bool),(0:Int)=(j:Int)∧(false)=q∧j≤(aI d x.into).1.rows.length∧q=decide ((v:Int)∈gQ ((aI d x.into).1.rows.take j) x.intoColumn))∧ ∀(j:Nat) (q:Bool),(j≤(aI d x.into).1.rows.length∧q=decide ((v:Int)∈gQ ((aI d x.into).1.rows.take j) x.intoColumn))→Lm aE (((aI d x.into).1).rows)∧(((decide ((j:Int)<(((((aI d x.into).1).rows).length:Nat):Int)))=true→((q)=true→dB ((j:Int)+(1:Int))∧ ∃(j' :Nat) (q' :Bool),((j:Int)+(1:Int))=(j' :Int)∧(true)=q' ∧(j' ≤(aI d x.into).1.rows.length∧q' =decide ((v:Int)∈gQ ((aI d x.into).1.rows.take j') x.intoColumn))∧(aI d x.into).1.rows.length - j' <(aI d x.into).1.rows.length - j)∧((q)=false→0≤(j:Int)∧Em aE (((aI d x.into).1).rows) j fun e72=>0≤x.intoColumn∧Em intD e72 ((x.intoColumn).toNat) fun e76=>dB ((j:Int)+(1:Int))∧ ∃(j' :Nat) (q' :Bool),((j:Int)+(1:Int))=(j' :Int)∧(decide (e76=(v:Int)))=q' ∧(j' ≤(aI d x.into).1.rows.length∧q' =decide ((v:Int)∈gQ ((aI d x.into).1.rows.take j') x.intoColumn))∧(aI d x.into).1.rows.length - j' <(aI d x.into).1.rows.length - j))∧((decide ((j:Int)<(((((aI d x.into).1).rows).length:Nat):Int)))=false→((p)=true→((!q)=true→out.map intD=out.map intD∧[[.int .i64 (v:Int)]]=([(v:Int)]:List Int).map intD∧(∀x,eC (intD x)=true)∧(out.length+([(v:Int)]:List Int).length)*8≤140737488355328∧dB ((v:Int)+(1:Int))∧ ∃(v' :Nat) (out' :List Int),((v:Int)+(1:Int))=(v' :Int)∧(out++[(v:Int)]).map intD=out'.map intD∧(v' ≤10∧out' =mQ d x v')∧10 - v' <10 - v)∧((!q)=false→dB ((v:Int)+(1:Int))∧ ∃(v' :Nat) (out' :List Int),((v:Int)+(1:Int))=(v' :Int)∧out.map intD=out'.map intD∧(v' ≤10∧out' =mQ d x v')∧10 - v' <10 - v))∧((p)=false→dB ((v:Int)+(1:Int))∧ ∃(v' :Nat) (out' :List Int),((v:Int)+(1:Int))=(v' :Int)∧out.map intD=out'.map intD∧(v' ≤10∧out' =mQ d x v')∧10 - v' <10 - v))))))∧((decide ((v:Int)≤(9:Int)))=false→out.map intD=(uU d x).map intD∧True)))))) (by kernel_rfl) ?_
 intro n0
 simp only [List.length_map] at n0
 refine ⟨aEw _ _ (by omega),fun c0=>?_,fun c0=>?_⟩
 ·replace c0:=nt c0
  have hbad:uU d x= []:=by rw [uU,if_neg (by simpa using c0)]
  refine ⟨?_,trivial⟩
  ·first | (rw [hbad]<;>rfl) | (rw [hE]<;>rfl)
 ·replace c0:=nf c0
  have hok:dX d x=true:=by simpa using c0
  obtain ⟨hTa,hTb,hca,hcb⟩:=xC hok
  have hA8:=bZ hTa
  have hB8:=bZ hTb
  refine ⟨iX (qP _ x.name (by omega)) rfl,iX (qP _ x.into (by omega)) rfl,⟨0,([]:List Int),rfl,rfl,by omega,rfl⟩,fun v out ⟨hvv,ho⟩=>?_⟩
  have hol:=aMH d x v
  rw [←ho] at hol
  refine ⟨fun c1=>?_,fun c1=>?_⟩
  ·replace c1:=yq c1
   refine ⟨⟨0,false,rfl,rfl,Nat.zero_le _,rfl⟩,fun k p ⟨hk,hp⟩=>?_⟩
   refine ⟨List.length_map _,fun c2=>?_,fun c2=>?_⟩
   ·replace c2:=yq c2
    obtain ⟨ra,hra⟩:=cC (l:=(aI d x.name).1.rows) (k:=k) (by omega)
    refine ⟨fun g47=>?_,fun g47=>?_⟩
    ·refine ⟨⟨by omega,by omega⟩,?_⟩
     exact ⟨k+1,_,rfl,rfl,⟨by omega,by rw [lM _ _ hra,xB,←hp,g47];rfl⟩,by omega⟩
    ·refine ⟨by omega,rfl,by omega,fun e51 h51=>?_⟩
     have hl51:=nS hTa (List.mem_of_getElem? h51)
     refine ⟨by omega,rfl,by omega,fun e55 h55=>?_⟩
     refine ⟨⟨by omega,by omega⟩,?_⟩
     exact ⟨k+1,_,rfl,rfl,⟨by omega,by obtain rfl:=bA h51 hra;rw [lM _ _ hra,xB,←hp,g47,bD h55,Bool.false_or];exact decide_eq_decide.2 ⟨Eq.symm,Eq.symm⟩⟩,by omega⟩
   ·replace c2:=nq c2
    have hP:p=decide ((v:Int)∈gQ (aI d x.name).1.rows x.column):=by rw [hp,List.take_of_length_le (by omega)]
    refine ⟨⟨0,false,rfl,rfl,Nat.zero_le _,rfl⟩,fun j q ⟨hj,hq⟩=>?_⟩
    refine ⟨List.length_map _,fun c3=>?_,fun c3=>?_⟩
    ·replace c3:=yq c3
     obtain ⟨rb,hrb⟩:=cC (l:=(aI d x.into).1.rows) (k:=j) (by omega)
     refine ⟨fun g68=>?_,fun g68=>?_⟩
     ·refine ⟨⟨by omega,by omega⟩,?_⟩
      exact ⟨j+1,_,rfl,rfl,⟨by omega,by rw [lM _ _ hrb,xB,←hq,g68];rfl⟩,by omega⟩
     ·refine ⟨by omega,rfl,by omega,fun e72 h72=>?_⟩
      have hl72:=nS hTb (List.mem_of_getElem? h72)
      refine ⟨by omega,rfl,by omega,fun e76 h76=>?_⟩
      refine ⟨⟨by omega,by omega⟩,?_⟩
      exact ⟨j+1,_,rfl,rfl,⟨by omega,by obtain rfl:=bA h72 hrb;rw [lM _ _ hrb,xB,←hq,g68,bD h76,Bool.false_or];exact decide_eq_decide.2 ⟨Eq.symm,Eq.symm⟩⟩,by omega⟩
    ·replace c3:=nq c3
     have hQ:q=decide ((v:Int)∈gQ (aI d x.into).1.rows x.intoColumn):=by rw [hq,List.take_of_length_le (by omega)]
     refine ⟨fun g82=>?_,fun g82=>?_⟩
     ·refine ⟨fun c4=>?_,fun c4=>?_⟩
      ·replace c4:=nt c4
       refine ⟨rfl,rfl,fun _=>rfl,by first | omega | (simp [ho];omega) | (simp;omega),?_⟩
       refine ⟨⟨by omega,by omega⟩,?_⟩
       exact ⟨v+1,_,rfl,rfl,⟨by omega,by rw [ho,aMG (by rw [aBV,←hP,←hQ,g82,c4];rfl)]⟩,by omega⟩
      ·replace c4:=nf c4
       refine ⟨⟨by omega,by omega⟩,?_⟩
       exact ⟨v+1,_,rfl,rfl,⟨by omega,by rw [ho,aJO (by rw [aBV,←hP,←hQ,g82,c4];rfl)]⟩,by omega⟩
     ·refine ⟨⟨by omega,by omega⟩,?_⟩
      exact ⟨v+1,_,rfl,rfl,⟨by omega,by rw [ho,aJO (by rw [aBV,←hP,←hQ,g82];rfl)]⟩,by omega⟩
  ·replace c1:=nq c1
   have hE:uU d x=out:=by rw [uU,if_pos hok,ho,show v=10 by omega]
   refine ⟨?_,trivial⟩
   ·first | (rw [hbad]<;>rfl) | (rw [hE]<;>rfl)
abbrev aB1 (d:aV) (x:aL):Prop:=dG Tryz.prog 137 [.agg [.sl 162 3 (d.tables.map aP)],.agg [.str x.name,.int .i64 x.column,.str x.into,.int .i64 x.intoColumn]] (vB (gZ d x)) []
theorem aKY (d:aV) (x:aL) (hc:bF d≤1048576):aB1 d x:=by
 refine aY bK aU Tryz.func137 (by kernel_rfl) (.call (vB (dX d x)) []<| .br (cI (xK d x)<| .len ((uU d x).length)<| .fin []) (.fin [])) (p:=(d.tables.map aP).length≤9223372036854775807→uC d x∧(((dX d x)=true→aCr d x∧Lm intD (uU d x)∧(decide ((((uU d x).length:Nat):Int)=(0:Int)))=(gZ d x)∧True)∧((dX d x)=false→(false)=(gZ d x)∧True))) (by kernel_rfl) ?_
 intro n0
 simp only [List.length_map] at n0
 refine ⟨aEw _ _ (by omega),fun g8=>?_,fun g8=>?_⟩
 ·refine ⟨aMZ _ _ (by omega),List.length_map _,?_,trivial⟩
  ·first | (simp [gZ, *];done) | (rw [gZ,g8,oN,aHF g8];rfl)
 ·refine ⟨?_,trivial⟩
  ·first | (simp [gZ, *];done) | (rw [gZ,g8,oN,aHF g8];rfl)
def eJ (d:aV) (l:List aN) (m:List aL):Bool:=l.all (gY d)&&(m.all (gZ d)&&(decide ((l.length:Int)≤8)&&decide ((m.length:Int)≤8)))
abbrev aCs (d:aV) (l:List aN) (m:List aL):Prop:=dG Tryz.prog 75 [.agg [.sl 162 3 (d.tables.map aP)],.one (.sl 168 3 (l.map aJ)),.one (.sl 170 4 (m.map aM))] (vB (eJ d l m)) []
theorem aM0 (d:aV) (l:List aN) (m:List aL) (hc:bF d≤1048576):aCs d l m:=by
 refine aY bK aU Tryz.func75 (by kernel_rfl) (.len l.length<| .loop Nat (Q1 Nat) [8,13,14,15,16,17,18,19,20,21] [800] (fun k=>[(13,vI (k:Int))]) (fun k=>[]) (fun k=>k≤l.length∧(l.take k).all (gY d)=true) (fun k=>l.length - k) (fun k=> .br (.elem _ aJ l (fun e15=> .call (vB (gY d e15)) []<| .br (.fin []) (.back []))) (.len m.length<| .loop Nat (Q1 Nat) [10,24,25,26,27,28,29,30,31,32] [1000] (fun j=>[(24,vI (j:Int))]) (fun j=>[]) (fun j=>j≤m.length∧(m.take j).all (gZ d)=true) (fun j=>m.length - j) (fun j=> .br (.elem _ aM m (fun e26=> .call (vB (gZ d e26)) []<| .br (.fin []) (.back []))) (.len l.length<| .br (.len m.length<| .fin []) (.fin [])))))) (p:=(d.tables.map aP).length≤9223372036854775807→(l.map aJ).length≤9223372036854775807→(m.map aM).length≤9223372036854775807→Lm aJ l∧((∃(k:Nat),(0:Int)=(k:Int)∧k≤l.length∧(l.take k).all (gY d)=true)∧ ∀(k:Nat),(k≤l.length∧(l.take k).all (gY d)=true)→((decide ((k:Int)<((l.length:Nat):Int)))=true→0≤(k:Int)∧Em aJ l k fun e15=>aBY d e15∧(((!(gY d e15))=true→(false)=(eJ d l m)∧True)∧((!(gY d e15))=false→dB ((k:Int)+(1:Int))∧ ∃(k' :Nat),((k:Int)+(1:Int))=(k' :Int)∧(k' ≤l.length∧(l.take k').all (gY d)=true)∧l.length - k' <l.length - k)))∧((decide ((k:Int)<((l.length:Nat):Int)))=false→Lm aM m∧((∃(j:Nat),(0:Int)=(j:Int)∧j≤m.length∧(m.take j).all (gZ d)=true)∧ ∀(j:Nat),(j≤m.length∧(m.take j).all (gZ d)=true)→((decide ((j:Int)<((m.length:Nat):Int)))=true→0≤(j:Int)∧Em aM m j fun e26=>aB0 d e26∧(((!(gZ d e26))=true→(false)=(eJ d l m)∧True)∧((!(gZ d e26))=false→dB ((j:Int)+(1:Int))∧ ∃(j' :Nat),((j:Int)+(1:Int))=(j' :Int)∧(j' ≤m.length∧(m.take j').all (gZ d)=true)∧m.length - j' <m.length - j)))∧((decide ((j:Int)<((m.length:Nat):Int)))=false→Lm aJ l∧(((decide (((l.length:Nat):Int)≤(8:Int)))=true→Lm aM m∧(decide (((m.length:Nat):Int)≤(8:Int)))=(eJ d l m)∧True)∧((decide (((l.length:Nat):Int)≤(8:Int)))=false→(false)=(eJ d l m)∧True))))))) (by kernel_rfl) ?_
 intro n0 n1 n2
 simp only [List.length_map] at n0 n1 n2
 refine ⟨List.length_map _,⟨0,rfl,Nat.zero_le _,rfl⟩,fun k ⟨hk,ha⟩=>?_⟩
 refine ⟨fun c0=>?_,fun c0=>?_⟩
 ·replace c0:=yq c0
  refine ⟨by omega,rfl,by omega,fun e15 h15=>?_⟩
  refine ⟨aKV _ _ (by omega),fun c1=>?_,fun c1=>?_⟩
  ·replace c1:=nt c1
   have hL:l.all (gY d)=false:=cG h15 (by simpa using c1)
   refine ⟨?_,trivial⟩
   ·first | (simp [eJ,hL];done) | (simp [eJ,hL,hM];done) | (simp [eJ,hL,hM, *];done)
  ·replace c1:=nf c1
   refine ⟨⟨by omega,by omega⟩,?_⟩
   exact ⟨k+1,rfl,⟨by omega,dQ h15 ha (by simpa using c1)⟩,by omega⟩
 ·replace c0:=nq c0
  have hL:=bU (by omega) ha
  refine ⟨List.length_map _,⟨0,rfl,Nat.zero_le _,rfl⟩,fun j ⟨hj,hb⟩=>?_⟩
  refine ⟨fun c2=>?_,fun c2=>?_⟩
  ·replace c2:=yq c2
   refine ⟨by omega,rfl,by omega,fun e26 h26=>?_⟩
   refine ⟨aKX _ _ (by omega),fun c3=>?_,fun c3=>?_⟩
   ·replace c3:=nt c3
    have hM:m.all (gZ d)=false:=cG h26 (by simpa using c3)
    refine ⟨?_,trivial⟩
    ·first | (simp [eJ,hL];done) | (simp [eJ,hL,hM];done) | (simp [eJ,hL,hM, *];done)
   ·replace c3:=nf c3
    refine ⟨⟨by omega,by omega⟩,?_⟩
    exact ⟨j+1,rfl,⟨by omega,dQ h26 hb (by simpa using c3)⟩,by omega⟩
  ·replace c2:=nq c2
   have hM:=bU (by omega) hb
   refine ⟨List.length_map _,fun g36=>?_,fun g36=>?_⟩
   ·replace g36:=yq g36
    refine ⟨List.length_map _,?_,trivial⟩
    ·first | (simp [eJ,hL];done) | (simp [eJ,hL,hM];done) | (simp [eJ,hL,hM, *];done)
   ·replace g36:=nq g36
    refine ⟨?_,trivial⟩
    ·first | (simp [eJ,hL];done) | (simp [eJ,hL,hM];done) | (simp [eJ,hL,hM, *];done)
abbrev aCt (d:aV) (l:List aN) (m:List aL):Prop:=dG Tryz.prog 65 [.agg [.sl 162 3 (d.tables.map aP)],.one (.sl 168 3 (l.map aJ)),.one (.sl 170 4 (m.map aM))] (vB (eJ d l m)) []
theorem aM1 (d:aV) (l:List aN) (m:List aL) (hc:bF d≤1048576):aCt d l m:=by
 refine aY bK aU Tryz.func65 (by kernel_rfl) (.len l.length<| .br (.fin []) (.len m.length<| .lit<| .lit<| .br (.fin []) (.loop Nat (Q1 Nat) [7,17,18,19,20,21,22,23,24,25,26,27,28,29] [] (fun k=>[(7,vI (k:Int))]) (fun k=>[]) (fun k=>k≤l.length∧(l.take k).all (gY d)=true) (fun k=>l.length - k) (fun k=> .len l.length<| .br (.elem _ aJ l (fun e26=> .call (vB (gY d e26)) []<| .br (.fin []) (.back []))) (.loop Nat (Q1 Nat) [8,30,31,32,33,34,35,36,37,38,39,40,41,42] [] (fun j=>[(8,vI (j:Int))]) (fun j=>[]) (fun j=>j≤m.length∧(m.take j).all (gZ d)=true) (fun j=>m.length - j) (fun j=> .len m.length<| .br (.elem _ aM m (fun e39=> .call (vB (gZ d e39)) []<| .br (.fin []) (.back []))) (.fin []))))))) (p:=(d.tables.map aP).length≤9223372036854775807→(l.map aJ).length≤9223372036854775807→(m.map aM).length≤9223372036854775807→Lm aJ l∧(((decide ((8:Int)<((l.length:Nat):Int)))=true→(false)=(eJ d l m)∧True)∧((decide ((8:Int)<((l.length:Nat):Int)))=false→Lm aM m∧(((decide ((8:Int)<((m.length:Nat):Int)))=true→(false)=(eJ d l m)∧True)∧((decide ((8:Int)<((m.length:Nat):Int)))=false→(∃(k:Nat),(0:Int)=(k:Int)∧k≤l.length∧(l.take k).all (gY d)=true)∧ ∀(k:Nat),(k≤l.length∧(l.take k).all (gY d)=true)→Lm aJ l∧(((decide ((k:Int)<((l.length:Nat):Int)))=true→0≤(k:Int)∧Em aJ l k fun e26=>aBZ d e26∧(((!(gY d e26))=true→(false)=(eJ d l m)∧True)∧((!(gY d e26))=false→dB ((k:Int)+(1:Int))∧ ∃(k' :Nat),((k:Int)+(1:Int))=(k' :Int)∧(k' ≤l.length∧(l.take k').all (gY d)=true)∧l.length - k' <l.length - k)))∧((decide ((k:Int)<((l.length:Nat):Int)))=false→(∃(j:Nat),(0:Int)=(j:Int)∧j≤m.length∧(m.take j).all (gZ d)=true)∧ ∀(j:Nat),(j≤m.length∧(m.take j).all (gZ d)=true)→Lm aM m∧(((decide ((j:Int)<((m.length:Nat):Int)))=true→0≤(j:Int)∧Em aM m j fun e39=>aB1 d e39∧(((!(gZ d e39))=true→(false)=(eJ d l m)∧True)∧((!(gZ d e39))=false→dB ((j:Int)+(1:Int))∧ ∃(j' :Nat),((j:Int)+(1:Int))=(j' :Int)∧(j' ≤m.length∧(m.take j').all (gZ d)=true)∧m.length - j' <m.length - j)))∧((decide ((j:Int)<((m.length:Nat):Int)))=false→(true)=(eJ d l m)∧True))))))))) (by kernel_rfl) ?_
 intro n0 n1 n2
 simp only [List.length_map] at n0 n1 n2
 refine ⟨List.length_map _,fun g12=>?_,fun g12=>?_⟩
 ·replace g12:=yq g12
  have hbad:(decide ((l.length:Int)≤8)&&decide ((m.length:Int)≤8))=false:=by first | (simp;omega) | (simp [*];omega)
  refine ⟨?_,trivial⟩
  ·first | (rw [eJ,hbad];simp;done) | (rw [eJ,hL,hM,hz];rfl) | (rw [eJ,hL];rfl) | (rw [eJ,hL,hM];rfl)
 ·replace g12:=nq g12
  refine ⟨List.length_map _,fun c0=>?_,fun c0=>?_⟩
  ·replace c0:=yq c0
   have hbad:(decide ((l.length:Int)≤8)&&decide ((m.length:Int)≤8))=false:=by first | (simp;omega) | (simp [*];omega)
   refine ⟨?_,trivial⟩
   ·first | (rw [eJ,hbad];simp;done) | (rw [eJ,hL,hM,hz];rfl) | (rw [eJ,hL];rfl) | (rw [eJ,hL,hM];rfl)
  ·replace c0:=nq c0
   have hz:(decide ((l.length:Int)≤8)&&decide ((m.length:Int)≤8))=true:=by simp;omega
   refine ⟨⟨0,rfl,Nat.zero_le _,rfl⟩,fun k ⟨hk,ha⟩=>?_⟩
   refine ⟨List.length_map _,fun c1=>?_,fun c1=>?_⟩
   ·replace c1:=yq c1
    refine ⟨by omega,rfl,by omega,fun e26 h26=>?_⟩
    refine ⟨aKW _ _ (by omega),fun c2=>?_,fun c2=>?_⟩
    ·replace c2:=nt c2
     have hL:l.all (gY d)=false:=cG h26 (by simpa using c2)
     refine ⟨?_,trivial⟩
     ·first | (rw [eJ,hbad];simp;done) | (rw [eJ,hL,hM,hz];rfl) | (rw [eJ,hL];rfl) | (rw [eJ,hL,hM];rfl)
    ·replace c2:=nf c2
     refine ⟨⟨by omega,by omega⟩,?_⟩
     exact ⟨k+1,rfl,⟨by omega,dQ h26 ha (by simpa using c2)⟩,by omega⟩
   ·replace c1:=nq c1
    have hL:=bU (by omega) ha
    refine ⟨⟨0,rfl,Nat.zero_le _,rfl⟩,fun j ⟨hj,hb⟩=>?_⟩
    refine ⟨List.length_map _,fun c3=>?_,fun c3=>?_⟩
    ·replace c3:=yq c3
     refine ⟨by omega,rfl,by omega,fun e39 h39=>?_⟩
     refine ⟨aKY _ _ (by omega),fun c4=>?_,fun c4=>?_⟩
     ·replace c4:=nt c4
      have hM:m.all (gZ d)=false:=cG h39 (by simpa using c4)
      refine ⟨?_,trivial⟩
      ·first | (rw [eJ,hbad];simp;done) | (rw [eJ,hL,hM,hz];rfl) | (rw [eJ,hL];rfl) | (rw [eJ,hL,hM];rfl)
     ·replace c4:=nf c4
      refine ⟨⟨by omega,by omega⟩,?_⟩
      exact ⟨j+1,rfl,⟨by omega,dQ h39 hb (by simpa using c4)⟩,by omega⟩
    ·replace c3:=nq c3
     have hM:=bU (by omega) hb
     refine ⟨?_,trivial⟩
     ·first | (rw [eJ,hbad];simp;done) | (rw [eJ,hL,hM,hz];rfl) | (rw [eJ,hL];rfl) | (rw [eJ,hL,hM];rfl)
def eK (s:StoreD):Bool:=(fA s.database s.catalogue.version).2&&(decide ((fA s.database s.catalogue.version).1=s.catalogue)&&eJ s.database s.dependencies s.inclusions)
abbrev aCu (s:StoreD):Prop:=dG Tryz.prog 73 [.agg [.sl 162 3 (s.database.tables.map aP),.int .i64 s.catalogue.version,.sl 121 4 (s.catalogue.tables.map aC),.sl 168 3 (s.dependencies.map aJ),.sl 170 4 (s.inclusions.map aM)]] (vB (eK s)) []
theorem aM2 (s:StoreD) (hc:eD s≤1048576):aCu s:=by
 refine aY bK aU Tryz.func73 (by kernel_rfl) (cI (aAQ s.database s.catalogue.version)<| .br (.call (vB (decide (((fA s.database s.catalogue.version).1)=s.catalogue))) []<| .lit<| .br (.call (vB (eJ s.database s.dependencies s.inclusions)) []<| .fin []) (.fin [])) (.fin [])) (p:=(s.database.tables.map aP).length≤9223372036854775807→(s.catalogue.tables.map aC).length≤9223372036854775807→(s.dependencies.map aJ).length≤9223372036854775807→(s.inclusions.map aM).length≤9223372036854775807→aEg s.database s.catalogue.version∧((((fA s.database s.catalogue.version).2)=true→aBE ((fA s.database s.catalogue.version).1) s.catalogue∧(((decide (((fA s.database s.catalogue.version).1)=s.catalogue))=true→aCs s.database s.dependencies s.inclusions∧(eJ s.database s.dependencies s.inclusions)=(eK s)∧True)∧((decide (((fA s.database s.catalogue.version).1)=s.catalogue))=false→(false)=(eK s)∧True)))∧(((fA s.database s.catalogue.version).2)=false→(false)=(eK s)∧True))) (by kernel_rfl) ?_
 intro n0 n1 n2 n3
 simp only [List.length_map] at n0 n1 n2 n3
 have hS:eD s=bF s.database+bM s.catalogue+bW s.dependencies+cV s.inclusions:=rfl
 have hsm:=aGz s.database s.catalogue.version
 refine ⟨aOO s.database s.catalogue.version,fun g15=>?_,fun g15=>?_⟩
 ·refine ⟨aKH _ _,fun g21=>?_,fun g21=>?_⟩
  ·replace g21:=yq g21
   refine ⟨aM0 s.database _ _ (by omega),?_,trivial⟩
   ·first | (simp [eK, *];done) | (simp_all [eK];done)
  ·replace g21:=nq g21
   refine ⟨?_,trivial⟩
   ·first | (simp [eK, *];done) | (simp_all [eK];done)
 ·refine ⟨?_,trivial⟩
  ·first | (simp [eK, *];done) | (simp_all [eK];done)
abbrev aCv (s:StoreD):Prop:=dG Tryz.prog 62 [.agg [.sl 162 3 (s.database.tables.map aP),.int .i64 s.catalogue.version,.sl 121 4 (s.catalogue.tables.map aC),.sl 168 3 (s.dependencies.map aJ),.sl 170 4 (s.inclusions.map aM)]] (vB (eK s)) []
theorem aM3 (s:StoreD) (hc:eD s≤1048576):aCv s:=by
 refine aY bK aU Tryz.func62 (by kernel_rfl) (cI (aAR s.database s.catalogue.version)<| .br (.call (vB (decide (((fA s.database s.catalogue.version).1)=s.catalogue))) []<| .lit<| .br (.call (vB (eJ s.database s.dependencies s.inclusions)) []<| .fin []) (.fin [])) (.fin [])) (p:=(s.database.tables.map aP).length≤9223372036854775807→(s.catalogue.tables.map aC).length≤9223372036854775807→(s.dependencies.map aJ).length≤9223372036854775807→(s.inclusions.map aM).length≤9223372036854775807→aEh s.database s.catalogue.version∧((((fA s.database s.catalogue.version).2)=true→aBG ((fA s.database s.catalogue.version).1) s.catalogue∧(((decide (((fA s.database s.catalogue.version).1)=s.catalogue))=true→aCt s.database s.dependencies s.inclusions∧(eJ s.database s.dependencies s.inclusions)=(eK s)∧True)∧((decide (((fA s.database s.catalogue.version).1)=s.catalogue))=false→(false)=(eK s)∧True)))∧(((fA s.database s.catalogue.version).2)=false→(false)=(eK s)∧True))) (by kernel_rfl) ?_
 intro n0 n1 n2 n3
 simp only [List.length_map] at n0 n1 n2 n3
 have hS:eD s=bF s.database+bM s.catalogue+bW s.dependencies+cV s.inclusions:=rfl
 have hsm:=aGz s.database s.catalogue.version
 refine ⟨aOP s.database s.catalogue.version,fun g15=>?_,fun g15=>?_⟩
 ·refine ⟨aKI _ _ (by omega),fun g21=>?_,fun g21=>?_⟩
  ·replace g21:=yq g21
   refine ⟨aM1 s.database _ _ (by omega),?_,trivial⟩
   ·first | (simp [eK, *];done) | (simp_all [eK];done)
  ·replace g21:=nq g21
   refine ⟨?_,trivial⟩
   ·first | (simp [eK, *];done) | (simp_all [eK];done)
 ·refine ⟨?_,trivial⟩
  ·first | (simp [eK, *];done) | (simp_all [eK];done)
end Go.Proofs.YtokkjaflmcjlhaaGreat
