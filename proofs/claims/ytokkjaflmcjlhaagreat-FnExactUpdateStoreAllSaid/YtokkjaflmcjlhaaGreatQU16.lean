/-
  Contracts and plain laws, joined: part 17.
-/
import Derived.Test.YtokkjaflmcjlhaaGreatQU14
namespace Go.Proofs.YtokkjaflmcjlhaaGreat
open Go.ChangeShapes Go.WideShapes Go.ChangeAt Go.RowKit
set_option linter.unusedVariables false
set_option linter.unusedSimpArgs false
set_option maxRecDepth 100000
set_option maxHeartbeats 4000000
abbrev aLP (x:List Int) (m:Int):Prop:=dJ Tryz.prog 49 [.one (.sl 3 1 ((cW m x).map intD)),.one (.int .i64 m)] (vI (m+((bS x:Nat):Int))) []
theorem aCv (x:List Int) (m:Int) (h0:0≤m) (hm:m+5*((bZ x:Nat):Int)≤4611686018427387904):aLP x m:=by
 refine aZ bR aT Tryz.func49 (by kernel_rfl) (.loop (Nat × Int) (Q2 Nat Int) [1,5,6,7,8,9,10,11,12,13,14,15,16,17,18,19] [] (fun yy0=>[(5,vI (yy0.1:Int)),(1,vI yy0.2)]) (fun yy0=>[]) (fun yy0=>yy0.1≤x.length∧yy0.2=m+((bB nG (x.take yy0.1):Nat):Int)) (fun yy0=>x.length - yy0.1) (fun yy0=> .len ((cW m x).length)<| .br (.elem _ intD (cW m x) (fun e14=> .no<| .back [])) (.fin []))) (p:=((cW m x).map intD).length≤9223372036854775807→(∃(k:Nat) (z:Int),(0:Int)=(k:Int)∧m=z∧k≤x.length∧z=m+((bB nG (x.take k):Nat):Int))∧ ∀(k:Nat) (z:Int),(k≤x.length∧z=m+((bB nG (x.take k):Nat):Int))→Lm intD (cW m x)∧(((decide ((k:Int)<(((cW m x).length:Nat):Int)))=true→0≤(k:Int)∧Em intD (cW m x) k fun e14=>(!(decide (e14=z)))=false∧dO (z+(1:Int))∧dO ((k:Int)+(1:Int))∧ ∃(k' :Nat) (z' :Int),((k:Int)+(1:Int))=(k' :Int)∧(z+(1:Int))=z' ∧(k' ≤x.length∧z' =m+((bB nG (x.take k'):Nat):Int))∧x.length - k' <x.length - k)∧((decide ((k:Int)<(((cW m x).length:Nat):Int)))=false→z=(m+((bS x:Nat):Int))∧True))) (by kernel_rfl) ?_
 intro n0
 simp only [List.length_map] at n0
 have hS:bS x=bB nG x:=rfl
 have hC:bZ x=x.length:=rfl
 have hlen:(cW m x).length=x.length:=gP _ _ _ _
 refine ⟨⟨0,m,rfl,rfl,Nat.zero_le _,by simp [bB]⟩,fun k z ⟨hk,hz⟩=>?_⟩
 refine ⟨List.length_map _,fun c0=>?_,fun c0=>?_⟩
 ·replace c0:=yq c0
  obtain ⟨y,hy⟩:=cE (l:=x) (k:=k) (by omega)
  have hY:(cW m x)[k]? =some (aJT z y):=by rw [hz];exact mB _ _ x m k y hy
  have hs:=bX nG hy
  have hle:=dX nG x (k+1)
  have hA:bB nG (x.take k)≤5*k:=aPm (fun _=>by simp [nG]) x k hk
  have hle5:=fU x
  have hE:nG y=1:=rfl
  refine ⟨by omega,rfl,by omega,fun e14 h14=>?_⟩
  obtain rfl:=(aV hY h14).symm
  refine ⟨by simp [aJT],⟨by omega,by omega⟩,⟨by omega,by omega⟩,?_⟩
  exact ⟨k+1,_,rfl,rfl,⟨by omega,by rw [hs];(try dsimp only);omega⟩,by omega⟩
 ·replace c0:=nq c0
  have hkx:k=x.length:=by omega
  rw [hkx,List.take_length] at hz
  refine ⟨?_,trivial⟩
  ·rw [hz];rfl
abbrev aJV (x:List (List Int)) (m:Int):Prop:=dJ Tryz.prog 241 [.one (.sl 32 1 ((eR m x).map aF)),.one (.int .i64 m)] (vI (m+((eM x:Nat):Int))) []
theorem aIX (x:List (List Int)) (m:Int) (h0:0≤m) (hm:m+5*((cP x:Nat):Int)≤4611686018427387904):aJV x m:=by
 refine aZ bR aT Tryz.func241 (by kernel_rfl) (.loop (Nat × Int) (Q2 Nat Int) [1,5,6,7,8,9,10,11,12,13,14,15,16,17,18,19] [] (fun yy0=>[(5,vI (yy0.1:Int)),(1,vI yy0.2)]) (fun yy0=>[]) (fun yy0=>yy0.1≤x.length∧yy0.2=m+((bB bS (x.take yy0.1):Nat):Int)) (fun yy0=>x.length - yy0.1) (fun yy0=> .len ((eR m x).length)<| .br (.elem _ aF (eR m x) (fun e14=> .call (vI (yy0.2+((bS (x.getD yy0.1 ([]:List Int)):Nat):Int))) []<| .no<| .back [])) (.fin []))) (p:=((eR m x).map aF).length≤9223372036854775807→(∃(k:Nat) (z:Int),(0:Int)=(k:Int)∧m=z∧k≤x.length∧z=m+((bB bS (x.take k):Nat):Int))∧ ∀(k:Nat) (z:Int),(k≤x.length∧z=m+((bB bS (x.take k):Nat):Int))→Lm aF (eR m x)∧(((decide ((k:Int)<(((eR m x).length:Nat):Int)))=true→0≤(k:Int)∧Em aF (eR m x) k fun e14=>dJ Tryz.prog 49 [.one (.sl 3 1 (e14.map intD)),.one (.int .i64 z)] (vI (z+((bS (x.getD k ([]:List Int)):Nat):Int))) []∧(decide ((z+((bS (x.getD k ([]:List Int)):Nat):Int))<(0:Int)))=false∧dO ((k:Int)+(1:Int))∧ ∃(k' :Nat) (z' :Int),((k:Int)+(1:Int))=(k' :Int)∧(z+((bS (x.getD k ([]:List Int)):Nat):Int))=z' ∧(k' ≤x.length∧z' =m+((bB bS (x.take k'):Nat):Int))∧x.length - k' <x.length - k)∧((decide ((k:Int)<(((eR m x).length:Nat):Int)))=false→z=(m+((eM x:Nat):Int))∧True))) (by kernel_rfl) ?_
 intro n0
 simp only [List.length_map] at n0
 have hS:eM x=bB bS x:=rfl
 have hC:cP x=x.length+bB bZ x:=rfl
 have hlen:(eR m x).length=x.length:=gP _ _ _ _
 refine ⟨⟨0,m,rfl,rfl,Nat.zero_le _,by simp [bB]⟩,fun k z ⟨hk,hz⟩=>?_⟩
 refine ⟨List.length_map _,fun c0=>?_,fun c0=>?_⟩
 ·replace c0:=yq c0
  obtain ⟨y,hy⟩:=cE (l:=x) (k:=k) (by omega)
  have hY:(eR m x)[k]? =some (cW z y):=by rw [hz];exact mB _ _ x m k y hy
  have hs:=bX bS hy
  have hle:=dX bS x (k+1)
  have hA:bB bS (x.take k)≤5*(k+bB bZ (x.take k)):=aBq (s:=bS) (c:=bZ) (fun y=>by have:=fU y;omega) x k hk
  have hB:=bX bZ hy
  have hD:=dX bZ x (k+1)
  have hle5:=mA x
  have hy5:=fU y
  have hg:x.getD k ([]:List Int)=y:=by simp [List.getD_eq_getElem?_getD,hy]
  try rw [hg]
  refine ⟨by omega,rfl,by omega,fun e14 h14=>?_⟩
  obtain rfl:=(aV hY h14).symm
  refine ⟨aCv _ _ (by omega) (by first | omega | (dsimp only;omega)),by simp;omega,⟨by omega,by omega⟩,?_⟩
  exact ⟨k+1,_,rfl,rfl,⟨by omega,by rw [hs,hz];omega⟩,by omega⟩
 ·replace c0:=nq c0
  have hkx:k=x.length:=by omega
  rw [hkx,List.take_length] at hz
  refine ⟨?_,trivial⟩
  ·rw [hz];rfl
abbrev aIY (x:List aN) (m:Int):Prop:=dJ Tryz.prog 162 [.one (.sl 162 3 ((hJ m x).map aD)),.one (.int .i64 m)] (vI (m+((jK x:Nat):Int))) []
theorem aLQ (x:List aN) (m:Int) (h0:0≤m) (hm:m+5*((eW x:Nat):Int)≤4611686018427387904):aIY x m:=by
 refine aZ bR aT Tryz.func162 (by kernel_rfl) (.loop (Nat × Int) (Q2 Nat Int) [1,5,6,7,8,9,10,11,12,13,14,15,16,17,18,19,20,21,22,23,24,25,26,27,28,29,30,31,32,33,34,35,36,37,38,39] [] (fun yy0=>[(5,vI (yy0.1:Int)),(1,vI yy0.2)]) (fun yy0=>[]) (fun yy0=>yy0.1≤x.length∧yy0.2=m+((bB eX (x.take yy0.1):Nat):Int)) (fun yy0=>x.length - yy0.1) (fun yy0=> .len ((hJ m x).length)<| .br (.elem _ aD (hJ m x) (fun e14=> .call (.p none (.str (aU yy0.2))) []<| .no<| .elem _ aD (hJ m x) (fun e24=> .no<| .elem _ aD (hJ m x) (fun e33=> .call (vI (((yy0.2+(1:Int))+(1:Int))+((eM ((x.getD yy0.1 fJ).rows):Nat):Int))) []<| .no<| .back [])))) (.fin []))) (p:=((hJ m x).map aD).length≤9223372036854775807→(∃(k:Nat) (z:Int),(0:Int)=(k:Int)∧m=z∧k≤x.length∧z=m+((bB eX (x.take k):Nat):Int))∧ ∀(k:Nat) (z:Int),(k≤x.length∧z=m+((bB eX (x.take k):Nat):Int))→Lm aD (hJ m x)∧(((decide ((k:Int)<(((hJ m x).length:Nat):Int)))=true→0≤(k:Int)∧Em aD (hJ m x) k fun e14=>iB z∧(!(e14.name.toList==(aU z).toList))=false∧dO (z+(1:Int))∧0≤(k:Int)∧Em aD (hJ m x) k fun e24=>(!(decide (e24.arity=(z+(1:Int)))))=false∧dO ((z+(1:Int))+(1:Int))∧0≤(k:Int)∧Em aD (hJ m x) k fun e33=>dJ Tryz.prog 241 [.one (.sl 32 1 (e33.rows.map aF)),.one (.int .i64 ((z+(1:Int))+(1:Int)))] (vI (((z+(1:Int))+(1:Int))+((eM ((x.getD k fJ).rows):Nat):Int))) []∧(decide ((((z+(1:Int))+(1:Int))+((eM ((x.getD k fJ).rows):Nat):Int))<(0:Int)))=false∧dO ((k:Int)+(1:Int))∧ ∃(k' :Nat) (z' :Int),((k:Int)+(1:Int))=(k' :Int)∧(((z+(1:Int))+(1:Int))+((eM ((x.getD k fJ).rows):Nat):Int))=z' ∧(k' ≤x.length∧z' =m+((bB eX (x.take k'):Nat):Int))∧x.length - k' <x.length - k)∧((decide ((k:Int)<(((hJ m x).length:Nat):Int)))=false→z=(m+((jK x:Nat):Int))∧True))) (by kernel_rfl) ?_
 intro n0
 simp only [List.length_map] at n0
 have hS:jK x=bB eX x:=rfl
 have hC:eW x=x.length+bB dF x:=rfl
 have hlen:(hJ m x).length=x.length:=gP _ _ _ _
 refine ⟨⟨0,m,rfl,rfl,Nat.zero_le _,by simp [bB]⟩,fun k z ⟨hk,hz⟩=>?_⟩
 refine ⟨List.length_map _,fun c0=>?_,fun c0=>?_⟩
 ·replace c0:=yq c0
  obtain ⟨y,hy⟩:=cE (l:=x) (k:=k) (by omega)
  have hY:(hJ m x)[k]? =some (rM z y):=by rw [hz];exact mB _ _ x m k y hy
  have hs:=bX eX hy
  have hle:=dX eX x (k+1)
  have hA:bB eX (x.take k)≤5*(k+bB dF (x.take k)):=aBq aAL x k hk
  have hB:=bX dF hy
  have hD:=dX dF x (k+1)
  have hF:dF y=ByteArray.size y.name+cP y.rows:=rfl
  have hle5:=qL x
  have hE:eX y=1+1+eM y.rows:=rfl
  have hy_rows:=mA y.rows
  have hg:x.getD k fJ=y:=by simp [List.getD_eq_getElem?_getD,hy]
  try rw [hg]
  refine ⟨by omega,rfl,by omega,fun e14 h14=>?_⟩
  obtain rfl:=(aV hY h14).symm
  refine ⟨mM _ (by omega),by simp [rM],⟨by omega,by omega⟩,by omega,rfl,by omega,fun e24 h24=>?_⟩
  obtain rfl:=(aV hY h24).symm
  refine ⟨by simp [rM],⟨by omega,by omega⟩,by omega,rfl,by omega,fun e33 h33=>?_⟩
  obtain rfl:=(aV hY h33).symm
  refine ⟨aIX _ _ (by omega) (by first | omega | (dsimp only;omega)),by simp;omega,⟨by omega,by omega⟩,?_⟩
  exact ⟨k+1,_,rfl,rfl,⟨by omega,by rw [hs];(try dsimp only);omega⟩,by omega⟩
 ·replace c0:=nq c0
  have hkx:k=x.length:=by omega
  rw [hkx,List.take_length] at hz
  refine ⟨?_,trivial⟩
  ·rw [hz];rfl
abbrev aEz (x:aP) (m:Int):Prop:=dJ Tryz.prog 85 [.agg [.sl 162 3 (((lR m x).tables).map aD)],.one (.int .i64 m)] (vI (m+((bL x:Nat):Int))) []
theorem aIZ (x:aP) (m:Int) (h0:0≤m) (hm:m+5*((aW x:Nat):Int)≤4611686018427387904):aEz x m:=by
 refine aZ bR aT Tryz.func85 (by kernel_rfl) (.call (vI (m+((jK x.tables:Nat):Int))) []<| .no<| .fin []) (p:=(((lR m x).tables).map aD).length≤9223372036854775807→dJ Tryz.prog 162 [.one (.sl 162 3 (((lR m x).tables).map aD)),.one (.int .i64 m)] (vI (m+((jK x.tables:Nat):Int))) []∧(decide ((m+((jK x.tables:Nat):Int))<(0:Int)))=false∧(m+((jK x.tables:Nat):Int))=(m+((bL x:Nat):Int))∧True) (by kernel_rfl) ?_
 intro n0
 simp only [List.length_map] at n0
 have hS:bL x=jK x.tables:=rfl
 have hC:aW x=eW x.tables:=rfl
 have:=qL x.tables
 refine ⟨aLQ _ _ (by omega) (by first | omega | (dsimp only;omega)),by simp;omega,?_,trivial⟩
 ·first | rfl | (rw [hS];omega)
abbrev aBr (x:List aH) (m:Int):Prop:=dJ Tryz.prog 242 [.one (.sl 218 3 ((dB m x).map aC)),.one (.int .i64 m)] (vI (m+((eG x:Nat):Int))) []
theorem aEZ (x:List aH) (m:Int) (h0:0≤m) (hm:m+5*((cS x:Nat):Int)≤4611686018427387904):aBr x m:=by
 refine aZ bR aT Tryz.func242 (by kernel_rfl) (.loop (Nat × Int) (Q2 Nat Int) [1,5,6,7,8,9,10,11,12,13,14,15,16,17,18,19,20,21,22,23,24,25,26,27,28,29,30,31,32,33,34,35,36,37,38] [] (fun yy0=>[(5,vI (yy0.1:Int)),(1,vI yy0.2)]) (fun yy0=>[]) (fun yy0=>yy0.1≤x.length∧yy0.2=m+((bB cH (x.take yy0.1):Nat):Int)) (fun yy0=>x.length - yy0.1) (fun yy0=> .len ((dB m x).length)<| .br (.elem _ aC (dB m x) (fun e14=> .call (vI (yy0.2+((bS ((x.getD yy0.1 bO).columns):Nat):Int))) []<| .no<| .elem _ aC (dB m x) (fun e23=> .call (vI ((yy0.2+((bS ((x.getD yy0.1 bO).columns):Nat):Int))+((eM ((x.getD yy0.1 bO).values):Nat):Int))) []<| .no<| .elem _ aC (dB m x) (fun e32=> .call (vI (((yy0.2+((bS ((x.getD yy0.1 bO).columns):Nat):Int))+((eM ((x.getD yy0.1 bO).values):Nat):Int))+((bS ((x.getD yy0.1 bO).counts):Nat):Int))) []<| .no<| .back [])))) (.fin []))) (p:=((dB m x).map aC).length≤9223372036854775807→(∃(k:Nat) (z:Int),(0:Int)=(k:Int)∧m=z∧k≤x.length∧z=m+((bB cH (x.take k):Nat):Int))∧ ∀(k:Nat) (z:Int),(k≤x.length∧z=m+((bB cH (x.take k):Nat):Int))→Lm aC (dB m x)∧(((decide ((k:Int)<(((dB m x).length:Nat):Int)))=true→0≤(k:Int)∧Em aC (dB m x) k fun e14=>dJ Tryz.prog 49 [.one (.sl 3 1 (e14.columns.map intD)),.one (.int .i64 z)] (vI (z+((bS ((x.getD k bO).columns):Nat):Int))) []∧(decide ((z+((bS ((x.getD k bO).columns):Nat):Int))<(0:Int)))=false∧0≤(k:Int)∧Em aC (dB m x) k fun e23=>dJ Tryz.prog 241 [.one (.sl 32 1 (e23.values.map aF)),.one (.int .i64 (z+((bS ((x.getD k bO).columns):Nat):Int)))] (vI ((z+((bS ((x.getD k bO).columns):Nat):Int))+((eM ((x.getD k bO).values):Nat):Int))) []∧(decide (((z+((bS ((x.getD k bO).columns):Nat):Int))+((eM ((x.getD k bO).values):Nat):Int))<(0:Int)))=false∧0≤(k:Int)∧Em aC (dB m x) k fun e32=>dJ Tryz.prog 49 [.one (.sl 3 1 (e32.counts.map intD)),.one (.int .i64 ((z+((bS ((x.getD k bO).columns):Nat):Int))+((eM ((x.getD k bO).values):Nat):Int)))] (vI (((z+((bS ((x.getD k bO).columns):Nat):Int))+((eM ((x.getD k bO).values):Nat):Int))+((bS ((x.getD k bO).counts):Nat):Int))) []∧(decide ((((z+((bS ((x.getD k bO).columns):Nat):Int))+((eM ((x.getD k bO).values):Nat):Int))+((bS ((x.getD k bO).counts):Nat):Int))<(0:Int)))=false∧dO ((k:Int)+(1:Int))∧ ∃(k' :Nat) (z' :Int),((k:Int)+(1:Int))=(k' :Int)∧(((z+((bS ((x.getD k bO).columns):Nat):Int))+((eM ((x.getD k bO).values):Nat):Int))+((bS ((x.getD k bO).counts):Nat):Int))=z' ∧(k' ≤x.length∧z' =m+((bB cH (x.take k'):Nat):Int))∧x.length - k' <x.length - k)∧((decide ((k:Int)<(((dB m x).length:Nat):Int)))=false→z=(m+((eG x:Nat):Int))∧True))) (by kernel_rfl) ?_
 intro n0
 simp only [List.length_map] at n0
 have hS:eG x=bB cH x:=rfl
 have hC:cS x=x.length+bB bD x:=rfl
 have hlen:(dB m x).length=x.length:=gP _ _ _ _
 refine ⟨⟨0,m,rfl,rfl,Nat.zero_le _,by simp [bB]⟩,fun k z ⟨hk,hz⟩=>?_⟩
 refine ⟨List.length_map _,fun c0=>?_,fun c0=>?_⟩
 ·replace c0:=yq c0
  obtain ⟨y,hy⟩:=cE (l:=x) (k:=k) (by omega)
  have hY:(dB m x)[k]? =some (kQ z y):=by rw [hz];exact mB _ _ x m k y hy
  have hs:=bX cH hy
  have hle:=dX cH x (k+1)
  have hA:bB cH (x.take k)≤5*(k+bB bD (x.take k)):=aBq oP x k hk
  have hB:=bX bD hy
  have hD:=dX bD x (k+1)
  have hF:bD y=bZ y.columns+cP y.values+bZ y.counts:=rfl
  have hle5:=jP x
  have hE:cH y=bS y.columns+eM y.values+bS y.counts:=rfl
  have hy_columns:=fU y.columns
  have hy_values:=mA y.values
  have hy_counts:=fU y.counts
  have hg:x.getD k bO=y:=by simp [List.getD_eq_getElem?_getD,hy]
  try rw [hg]
  refine ⟨by omega,rfl,by omega,fun e14 h14=>?_⟩
  obtain rfl:=(aV hY h14).symm
  refine ⟨aCv _ _ (by omega) (by first | omega | (dsimp only;omega)),by simp;omega,by omega,rfl,by omega,fun e23 h23=>?_⟩
  obtain rfl:=(aV hY h23).symm
  refine ⟨aIX _ _ (by omega) (by first | omega | (dsimp only;omega)),by simp;omega,by omega,rfl,by omega,fun e32 h32=>?_⟩
  obtain rfl:=(aV hY h32).symm
  refine ⟨aCv _ _ (by omega) (by first | omega | (dsimp only;omega)),by simp;omega,⟨by omega,by omega⟩,?_⟩
  exact ⟨k+1,_,rfl,rfl,⟨by omega,by rw [hs];(try dsimp only);omega⟩,by omega⟩
 ·replace c0:=nq c0
  have hkx:k=x.length:=by omega
  rw [hkx,List.take_length] at hz
  refine ⟨?_,trivial⟩
  ·rw [hz];rfl
abbrev aBs (x:List aG) (m:Int):Prop:=dJ Tryz.prog 163 [.one (.sl 121 4 ((dI m x).map aA)),.one (.int .i64 m)] (vI (m+((eH x:Nat):Int))) []
theorem aE0 (x:List aG) (m:Int) (h0:0≤m) (hm:m+5*((cT x:Nat):Int)≤4611686018427387904):aBs x m:=by
 refine aZ bR aT Tryz.func163 (by kernel_rfl) (.loop (Nat × Int) (Q2 Nat Int) [1,5,6,7,8,9,10,11,12,13,14,15,16,17,18,19,20,21,22,23,24,25,26,27,28,29,30,31,32,33,34,35,36,37,38,39,40,41,42,43,44,45,46,47,48] [] (fun yy0=>[(5,vI (yy0.1:Int)),(1,vI yy0.2)]) (fun yy0=>[]) (fun yy0=>yy0.1≤x.length∧yy0.2=m+((bB cI (x.take yy0.1):Nat):Int)) (fun yy0=>x.length - yy0.1) (fun yy0=> .len ((dI m x).length)<| .br (.elem _ aA (dI m x) (fun e14=> .call (.p none (.str (aU yy0.2))) []<| .no<| .elem _ aA (dI m x) (fun e24=> .no<| .elem _ aA (dI m x) (fun e33=> .no<| .elem _ aA (dI m x) (fun e42=> .call (vI ((((yy0.2+(1:Int))+(1:Int))+(1:Int))+((eG ((x.getD yy0.1 dD).groups):Nat):Int))) []<| .no<| .back []))))) (.fin []))) (p:=((dI m x).map aA).length≤9223372036854775807→(∃(k:Nat) (z:Int),(0:Int)=(k:Int)∧m=z∧k≤x.length∧z=m+((bB cI (x.take k):Nat):Int))∧ ∀(k:Nat) (z:Int),(k≤x.length∧z=m+((bB cI (x.take k):Nat):Int))→Lm aA (dI m x)∧(((decide ((k:Int)<(((dI m x).length:Nat):Int)))=true→0≤(k:Int)∧Em aA (dI m x) k fun e14=>iB z∧(!(e14.name.toList==(aU z).toList))=false∧dO (z+(1:Int))∧0≤(k:Int)∧Em aA (dI m x) k fun e24=>(!(decide (e24.arity=(z+(1:Int)))))=false∧dO ((z+(1:Int))+(1:Int))∧0≤(k:Int)∧Em aA (dI m x) k fun e33=>(!(decide (e33.rowCount=((z+(1:Int))+(1:Int)))))=false∧dO (((z+(1:Int))+(1:Int))+(1:Int))∧0≤(k:Int)∧Em aA (dI m x) k fun e42=>dJ Tryz.prog 242 [.one (.sl 218 3 (e42.groups.map aC)),.one (.int .i64 (((z+(1:Int))+(1:Int))+(1:Int)))] (vI ((((z+(1:Int))+(1:Int))+(1:Int))+((eG ((x.getD k dD).groups):Nat):Int))) []∧(decide (((((z+(1:Int))+(1:Int))+(1:Int))+((eG ((x.getD k dD).groups):Nat):Int))<(0:Int)))=false∧dO ((k:Int)+(1:Int))∧ ∃(k' :Nat) (z' :Int),((k:Int)+(1:Int))=(k' :Int)∧((((z+(1:Int))+(1:Int))+(1:Int))+((eG ((x.getD k dD).groups):Nat):Int))=z' ∧(k' ≤x.length∧z' =m+((bB cI (x.take k'):Nat):Int))∧x.length - k' <x.length - k)∧((decide ((k:Int)<(((dI m x).length:Nat):Int)))=false→z=(m+((eH x:Nat):Int))∧True))) (by kernel_rfl) ?_
 intro n0
 simp only [List.length_map] at n0
 have hS:eH x=bB cI x:=rfl
 have hC:cT x=x.length+bB bC x:=rfl
 have hlen:(dI m x).length=x.length:=gP _ _ _ _
 refine ⟨⟨0,m,rfl,rfl,Nat.zero_le _,by simp [bB]⟩,fun k z ⟨hk,hz⟩=>?_⟩
 refine ⟨List.length_map _,fun c0=>?_,fun c0=>?_⟩
 ·replace c0:=yq c0
  obtain ⟨y,hy⟩:=cE (l:=x) (k:=k) (by omega)
  have hY:(dI m x)[k]? =some (gJ z y):=by rw [hz];exact mB _ _ x m k y hy
  have hs:=bX cI hy
  have hle:=dX cI x (k+1)
  have hA:bB cI (x.take k)≤5*(k+bB bC (x.take k)):=aBq oQ x k hk
  have hB:=bX bC hy
  have hD:=dX bC x (k+1)
  have hF:bC y=ByteArray.size y.name+cS y.groups:=rfl
  have hle5:=jQ x
  have hE:cI y=1+1+1+eG y.groups:=rfl
  have hy_groups:=jP y.groups
  have hg:x.getD k dD=y:=by simp [List.getD_eq_getElem?_getD,hy]
  try rw [hg]
  refine ⟨by omega,rfl,by omega,fun e14 h14=>?_⟩
  obtain rfl:=(aV hY h14).symm
  refine ⟨mM _ (by omega),by simp [gJ],⟨by omega,by omega⟩,by omega,rfl,by omega,fun e24 h24=>?_⟩
  obtain rfl:=(aV hY h24).symm
  refine ⟨by simp [gJ],⟨by omega,by omega⟩,by omega,rfl,by omega,fun e33 h33=>?_⟩
  obtain rfl:=(aV hY h33).symm
  refine ⟨by simp [gJ],⟨by omega,by omega⟩,by omega,rfl,by omega,fun e42 h42=>?_⟩
  obtain rfl:=(aV hY h42).symm
  refine ⟨aEZ _ _ (by omega) (by first | omega | (dsimp only;omega)),by simp;omega,⟨by omega,by omega⟩,?_⟩
  exact ⟨k+1,_,rfl,rfl,⟨by omega,by rw [hs];(try dsimp only);omega⟩,by omega⟩
 ·replace c0:=nq c0
  have hkx:k=x.length:=by omega
  rw [hkx,List.take_length] at hz
  refine ⟨?_,trivial⟩
  ·rw [hz];rfl
abbrev aE1 (x:cA) (m:Int):Prop:=dJ Tryz.prog 86 [.agg [.int .i64 ((jE m x).version),.sl 121 4 (((jE m x).tables).map aA)],.one (.int .i64 m)] (vI (m+((bT x:Nat):Int))) []
theorem aGq (x:cA) (m:Int) (h0:0≤m) (hm:m+5*((bK x:Nat):Int)≤4611686018427387904):aE1 x m:=by
 refine aZ bR aT Tryz.func86 (by kernel_rfl) (.call (vI (m+((eH x.tables:Nat):Int))) []<| .no<| .fin []) (p:=(((jE m x).tables).map aA).length≤9223372036854775807→dJ Tryz.prog 163 [.one (.sl 121 4 (((jE m x).tables).map aA)),.one (.int .i64 m)] (vI (m+((eH x.tables:Nat):Int))) []∧(decide ((m+((eH x.tables:Nat):Int))<(0:Int)))=false∧(m+((eH x.tables:Nat):Int))=(m+((bT x:Nat):Int))∧True) (by kernel_rfl) ?_
 intro n0
 simp only [List.length_map] at n0
 have hS:bT x=eH x.tables:=rfl
 have hC:bK x=cT x.tables:=rfl
 have:=jQ x.tables
 refine ⟨aE0 _ _ (by omega) (by first | omega | (dsimp only;omega)),by simp;omega,?_,trivial⟩
 ·first | rfl | (rw [hS];omega)
abbrev aBt (x:List aJ) (m:Int):Prop:=dJ Tryz.prog 87 [.one (.sl 168 3 ((dS m x).map aB)),.one (.int .i64 m)] (vI (m+((cN x:Nat):Int))) []
theorem aE2 (x:List aJ) (m:Int) (h0:0≤m) (hm:m+5*((bH x:Nat):Int)≤4611686018427387904):aBt x m:=by
 refine aZ bR aT Tryz.func87 (by kernel_rfl) (.loop (Nat × Int) (Q2 Nat Int) [1,5,6,7,8,9,10,11,12,13,14,15,16,17,18,19,20,21,22,23,24,25,26,27,28,29,30,31,32,33,34,35,36,37,38,39] [] (fun yy0=>[(5,vI (yy0.1:Int)),(1,vI yy0.2)]) (fun yy0=>[]) (fun yy0=>yy0.1≤x.length∧yy0.2=m+((bB cJ (x.take yy0.1):Nat):Int)) (fun yy0=>x.length - yy0.1) (fun yy0=> .len ((dS m x).length)<| .br (.elem _ aB (dS m x) (fun e14=> .call (.p none (.str (aU yy0.2))) []<| .no<| .elem _ aB (dS m x) (fun e24=> .call (vI ((yy0.2+(1:Int))+((bS ((x.getD yy0.1 dP).src):Nat):Int))) []<| .no<| .elem _ aB (dS m x) (fun e33=> .no<| .back [])))) (.fin []))) (p:=((dS m x).map aB).length≤9223372036854775807→(∃(k:Nat) (z:Int),(0:Int)=(k:Int)∧m=z∧k≤x.length∧z=m+((bB cJ (x.take k):Nat):Int))∧ ∀(k:Nat) (z:Int),(k≤x.length∧z=m+((bB cJ (x.take k):Nat):Int))→Lm aB (dS m x)∧(((decide ((k:Int)<(((dS m x).length:Nat):Int)))=true→0≤(k:Int)∧Em aB (dS m x) k fun e14=>iB z∧(!(e14.name.toList==(aU z).toList))=false∧dO (z+(1:Int))∧0≤(k:Int)∧Em aB (dS m x) k fun e24=>dJ Tryz.prog 49 [.one (.sl 3 1 (e24.src.map intD)),.one (.int .i64 (z+(1:Int)))] (vI ((z+(1:Int))+((bS ((x.getD k dP).src):Nat):Int))) []∧(decide (((z+(1:Int))+((bS ((x.getD k dP).src):Nat):Int))<(0:Int)))=false∧0≤(k:Int)∧Em aB (dS m x) k fun e33=>(!(decide (e33.dst=((z+(1:Int))+((bS ((x.getD k dP).src):Nat):Int)))))=false∧dO (((z+(1:Int))+((bS ((x.getD k dP).src):Nat):Int))+(1:Int))∧dO ((k:Int)+(1:Int))∧ ∃(k' :Nat) (z' :Int),((k:Int)+(1:Int))=(k' :Int)∧(((z+(1:Int))+((bS ((x.getD k dP).src):Nat):Int))+(1:Int))=z' ∧(k' ≤x.length∧z' =m+((bB cJ (x.take k'):Nat):Int))∧x.length - k' <x.length - k)∧((decide ((k:Int)<(((dS m x).length:Nat):Int)))=false→z=(m+((cN x:Nat):Int))∧True))) (by kernel_rfl) ?_
 intro n0
 simp only [List.length_map] at n0
 have hS:cN x=bB cJ x:=rfl
 have hC:bH x=x.length+bB bI x:=rfl
 have hlen:(dS m x).length=x.length:=gP _ _ _ _
 refine ⟨⟨0,m,rfl,rfl,Nat.zero_le _,by simp [bB]⟩,fun k z ⟨hk,hz⟩=>?_⟩
 refine ⟨List.length_map _,fun c0=>?_,fun c0=>?_⟩
 ·replace c0:=yq c0
  obtain ⟨y,hy⟩:=cE (l:=x) (k:=k) (by omega)
  have hY:(dS m x)[k]? =some (iJ z y):=by rw [hz];exact mB _ _ x m k y hy
  have hs:=bX cJ hy
  have hle:=dX cJ x (k+1)
  have hA:bB cJ (x.take k)≤5*(k+bB bI (x.take k)):=aBq oR x k hk
  have hB:=bX bI hy
  have hD:=dX bI x (k+1)
  have hF:bI y=ByteArray.size y.name+bZ y.src:=rfl
  have hle5:=jR x
  have hE:cJ y=1+bS y.src+1:=rfl
  have hy_src:=fU y.src
  have hg:x.getD k dP=y:=by simp [List.getD_eq_getElem?_getD,hy]
  try rw [hg]
  refine ⟨by omega,rfl,by omega,fun e14 h14=>?_⟩
  obtain rfl:=(aV hY h14).symm
  refine ⟨mM _ (by omega),by simp [iJ],⟨by omega,by omega⟩,by omega,rfl,by omega,fun e24 h24=>?_⟩
  obtain rfl:=(aV hY h24).symm
  refine ⟨aCv _ _ (by omega) (by first | omega | (dsimp only;omega)),by simp;omega,by omega,rfl,by omega,fun e33 h33=>?_⟩
  obtain rfl:=(aV hY h33).symm
  refine ⟨by simp [iJ],⟨by omega,by omega⟩,⟨by omega,by omega⟩,?_⟩
  exact ⟨k+1,_,rfl,rfl,⟨by omega,by rw [hs];(try dsimp only);omega⟩,by omega⟩
 ·replace c0:=nq c0
  have hkx:k=x.length:=by omega
  rw [hkx,List.take_length] at hz
  refine ⟨?_,trivial⟩
  ·rw [hz];rfl
abbrev aCf (x:List aL) (m:Int):Prop:=dJ Tryz.prog 88 [.one (.sl 170 4 ((dV m x).map aE)),.one (.int .i64 m)] (vI (m+((eS x:Nat):Int))) []
theorem aFA (x:List aL) (m:Int) (h0:0≤m) (hm:m+5*((cG x:Nat):Int)≤4611686018427387904):aCf x m:=by
 refine aZ bR aT Tryz.func88 (by kernel_rfl) (.loop (Nat × Int) (Q2 Nat Int) [1,5,6,7,8,9,10,11,12,13,14,15,16,17,18,19,20,21,22,23,24,25,26,27,28,29,30,31,32,33,34,35,36,37,38,39,40,41,42,43,44,45,46,47,48,49] [] (fun yy0=>[(5,vI (yy0.1:Int)),(1,vI yy0.2)]) (fun yy0=>[]) (fun yy0=>yy0.1≤x.length∧yy0.2=m+((bB cR (x.take yy0.1):Nat):Int)) (fun yy0=>x.length - yy0.1) (fun yy0=> .len ((dV m x).length)<| .br (.elem _ aE (dV m x) (fun e14=> .call (.p none (.str (aU yy0.2))) []<| .no<| .elem _ aE (dV m x) (fun e24=> .no<| .elem _ aE (dV m x) (fun e33=> .call (.p none (.str (aU ((yy0.2+(1:Int))+(1:Int))))) []<| .no<| .elem _ aE (dV m x) (fun e43=> .no<| .back []))))) (.fin []))) (p:=((dV m x).map aE).length≤9223372036854775807→(∃(k:Nat) (z:Int),(0:Int)=(k:Int)∧m=z∧k≤x.length∧z=m+((bB cR (x.take k):Nat):Int))∧ ∀(k:Nat) (z:Int),(k≤x.length∧z=m+((bB cR (x.take k):Nat):Int))→Lm aE (dV m x)∧(((decide ((k:Int)<(((dV m x).length:Nat):Int)))=true→0≤(k:Int)∧Em aE (dV m x) k fun e14=>iB z∧(!(e14.name.toList==(aU z).toList))=false∧dO (z+(1:Int))∧0≤(k:Int)∧Em aE (dV m x) k fun e24=>(!(decide (e24.column=(z+(1:Int)))))=false∧dO ((z+(1:Int))+(1:Int))∧0≤(k:Int)∧Em aE (dV m x) k fun e33=>iB ((z+(1:Int))+(1:Int))∧(!(e33.into.toList==(aU ((z+(1:Int))+(1:Int))).toList))=false∧dO (((z+(1:Int))+(1:Int))+(1:Int))∧0≤(k:Int)∧Em aE (dV m x) k fun e43=>(!(decide (e43.intoColumn=(((z+(1:Int))+(1:Int))+(1:Int)))))=false∧dO ((((z+(1:Int))+(1:Int))+(1:Int))+(1:Int))∧dO ((k:Int)+(1:Int))∧ ∃(k' :Nat) (z' :Int),((k:Int)+(1:Int))=(k' :Int)∧((((z+(1:Int))+(1:Int))+(1:Int))+(1:Int))=z' ∧(k' ≤x.length∧z' =m+((bB cR (x.take k'):Nat):Int))∧x.length - k' <x.length - k)∧((decide ((k:Int)<(((dV m x).length:Nat):Int)))=false→z=(m+((eS x:Nat):Int))∧True))) (by kernel_rfl) ?_
 intro n0
 simp only [List.length_map] at n0
 have hS:eS x=bB cR x:=rfl
 have hC:cG x=x.length+bB bU x:=rfl
 have hlen:(dV m x).length=x.length:=gP _ _ _ _
 refine ⟨⟨0,m,rfl,rfl,Nat.zero_le _,by simp [bB]⟩,fun k z ⟨hk,hz⟩=>?_⟩
 refine ⟨List.length_map _,fun c0=>?_,fun c0=>?_⟩
 ·replace c0:=yq c0
  obtain ⟨y,hy⟩:=cE (l:=x) (k:=k) (by omega)
  have hY:(dV m x)[k]? =some (gO z y):=by rw [hz];exact mB _ _ x m k y hy
  have hs:=bX cR hy
  have hle:=dX cR x (k+1)
  have hA:bB cR (x.take k)≤5*(k+bB bU (x.take k)):=aBq qN x k hk
  have hB:=bX bU hy
  have hD:=dX bU x (k+1)
  have hF:bU y=ByteArray.size y.name+ByteArray.size y.into:=rfl
  have hle5:=kH x
  have hE:cR y=1+1+1+1:=rfl
  have hg:x.getD k eO=y:=by simp [List.getD_eq_getElem?_getD,hy]
  try rw [hg]
  refine ⟨by omega,rfl,by omega,fun e14 h14=>?_⟩
  obtain rfl:=(aV hY h14).symm
  refine ⟨mM _ (by omega),by simp [gO],⟨by omega,by omega⟩,by omega,rfl,by omega,fun e24 h24=>?_⟩
  obtain rfl:=(aV hY h24).symm
  refine ⟨by simp [gO],⟨by omega,by omega⟩,by omega,rfl,by omega,fun e33 h33=>?_⟩
  obtain rfl:=(aV hY h33).symm
  refine ⟨mM _ (by omega),by simp [gO],⟨by omega,by omega⟩,by omega,rfl,by omega,fun e43 h43=>?_⟩
  obtain rfl:=(aV hY h43).symm
  refine ⟨by simp [gO],⟨by omega,by omega⟩,⟨by omega,by omega⟩,?_⟩
  exact ⟨k+1,_,rfl,rfl,⟨by omega,by rw [hs];(try dsimp only);omega⟩,by omega⟩
 ·replace c0:=nq c0
  have hkx:k=x.length:=by omega
  rw [hkx,List.take_length] at hz
  refine ⟨?_,trivial⟩
  ·rw [hz];rfl
abbrev aJW (x:StoreD) (m:Int):Prop:=dJ Tryz.prog 23 [.agg [.sl 162 3 ((((eJ m x).database).tables).map aD),.int .i64 (((eJ m x).catalogue).version),.sl 121 4 ((((eJ m x).catalogue).tables).map aA),.sl 168 3 (((eJ m x).dependencies).map aB),.sl 170 4 (((eJ m x).inclusions).map aE)],.one (.int .i64 m)] (vI (m+((fQ x:Nat):Int))) []
theorem aI0 (x:StoreD) (m:Int) (h0:0≤m) (hm:m+5*((dQ x:Nat):Int)≤4611686018427387904):aJW x m:=by
 refine aZ bR aT Tryz.func23 (by kernel_rfl) (.call (vI (m+((bL x.database:Nat):Int))) []<| .no<| .call (vI ((m+((bL x.database:Nat):Int))+((bT x.catalogue:Nat):Int))) []<| .no<| .call (vI (((m+((bL x.database:Nat):Int))+((bT x.catalogue:Nat):Int))+((cN x.dependencies:Nat):Int))) []<| .no<| .call (vI ((((m+((bL x.database:Nat):Int))+((bT x.catalogue:Nat):Int))+((cN x.dependencies:Nat):Int))+((eS x.inclusions:Nat):Int))) []<| .no<| .fin []) (p:=((((eJ m x).database).tables).map aD).length≤9223372036854775807→((((eJ m x).catalogue).tables).map aA).length≤9223372036854775807→(((eJ m x).dependencies).map aB).length≤9223372036854775807→(((eJ m x).inclusions).map aE).length≤9223372036854775807→dJ Tryz.prog 85 [.agg [.sl 162 3 ((((eJ m x).database).tables).map aD)],.one (.int .i64 m)] (vI (m+((bL x.database:Nat):Int))) []∧(decide ((m+((bL x.database:Nat):Int))<(0:Int)))=false∧dJ Tryz.prog 86 [.agg [.int .i64 (((eJ m x).catalogue).version),.sl 121 4 ((((eJ m x).catalogue).tables).map aA)],.one (.int .i64 (m+((bL x.database:Nat):Int)))] (vI ((m+((bL x.database:Nat):Int))+((bT x.catalogue:Nat):Int))) []∧(decide (((m+((bL x.database:Nat):Int))+((bT x.catalogue:Nat):Int))<(0:Int)))=false∧dJ Tryz.prog 87 [.one (.sl 168 3 (((eJ m x).dependencies).map aB)),.one (.int .i64 ((m+((bL x.database:Nat):Int))+((bT x.catalogue:Nat):Int)))] (vI (((m+((bL x.database:Nat):Int))+((bT x.catalogue:Nat):Int))+((cN x.dependencies:Nat):Int))) []∧(decide ((((m+((bL x.database:Nat):Int))+((bT x.catalogue:Nat):Int))+((cN x.dependencies:Nat):Int))<(0:Int)))=false∧dJ Tryz.prog 88 [.one (.sl 170 4 (((eJ m x).inclusions).map aE)),.one (.int .i64 (((m+((bL x.database:Nat):Int))+((bT x.catalogue:Nat):Int))+((cN x.dependencies:Nat):Int)))] (vI ((((m+((bL x.database:Nat):Int))+((bT x.catalogue:Nat):Int))+((cN x.dependencies:Nat):Int))+((eS x.inclusions:Nat):Int))) []∧(decide (((((m+((bL x.database:Nat):Int))+((bT x.catalogue:Nat):Int))+((cN x.dependencies:Nat):Int))+((eS x.inclusions:Nat):Int))<(0:Int)))=false∧((((m+((bL x.database:Nat):Int))+((bT x.catalogue:Nat):Int))+((cN x.dependencies:Nat):Int))+((eS x.inclusions:Nat):Int))=(m+((fQ x:Nat):Int))∧True) (by kernel_rfl) ?_
 intro n0 n1 n2 n3
 simp only [List.length_map] at n0 n1 n2 n3
 have hS:fQ x=bL x.database+bT x.catalogue+cN x.dependencies+eS x.inclusions:=rfl
 have hC:dQ x=aW x.database+bK x.catalogue+bH x.dependencies+cG x.inclusions:=rfl
 have:=rV x.database
 have:=qM x.catalogue
 have:=jR x.dependencies
 have:=kH x.inclusions
 refine ⟨aIZ _ _ (by omega) (by first | omega | (dsimp only;omega)),by simp;omega,aGq _ _ (by omega) (by first | omega | (dsimp only;omega)),by simp;omega,aE2 _ _ (by omega) (by first | omega | (dsimp only;omega)),by simp;omega,aFA _ _ (by omega) (by first | omega | (dsimp only;omega)),by simp;omega,?_,trivial⟩
 ·first | rfl | (rw [hS];omega)
end Go.Proofs.YtokkjaflmcjlhaaGreat
