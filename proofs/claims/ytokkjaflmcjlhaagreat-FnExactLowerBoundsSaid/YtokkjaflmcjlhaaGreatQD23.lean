/-
  Contracts and plain laws, joined: part 24.
-/
import Derived.Test.YtokkjaflmcjlhaaGreatQD22
import Derived.Test.YtokkjaflmcjlhaaGreatQD15
import Derived.Test.YtokkjaflmcjlhaaGreatQD16
import Derived.Test.YtokkjaflmcjlhaaGreatQD17
import Derived.Test.YtokkjaflmcjlhaaGreatQD18
import Derived.Test.YtokkjaflmcjlhaaGreatQD19
import Derived.Test.YtokkjaflmcjlhaaGreatQD3
import Derived.Test.YtokkjaflmcjlhaaGreatQD0
namespace Go.Proofs.YtokkjaflmcjlhaaGreat
open Go.ChangeShapes Go.WideShapes Go.ChangeAt Go.RowKit
set_option linter.unusedVariables false
set_option linter.unusedSimpArgs false
set_option maxRecDepth 100000
set_option maxHeartbeats 4000000
def kK (q:QueryD) (k:Nat):List Int:=((List.range k).filter fun m=>nO q ((m+1:Nat):Int)).map fun m:Nat=>((m+1:Nat):Int)
theorem aKv {q:QueryD} {k:Nat} (h:nO q ((k+1:Nat):Int)=true):kK q (k+1)=kK q k++[((k+1:Nat):Int)]:=by
 rw [kK,List.range_succ,List.filter_append,List.map_append,List.filter_cons_of_pos (p:=fun m=>nO q ((m+1:Nat):Int)) h];rfl
theorem aMp {q:QueryD} {k:Nat} (h:nO q ((k+1:Nat):Int)=false):kK q (k+1)=kK q k:=by
 rw [kK,List.range_succ,List.filter_append,List.map_append,List.filter_cons_of_neg (p:=fun m=>nO q ((m+1:Nat):Int)) (by rw [h];decide)]
 exact List.append_nil _
theorem aKw (q:QueryD) (k:Nat):(kK q k).length≤k:=by
 rw [kK,List.length_map]
 have:=List.length_filter_le (fun m=>nO q ((m+1:Nat):Int)) (List.range k)
 rwa [List.length_range] at this
theorem aC9 {q:QueryD} {k:Nat} {x:Int}:x∈kK q k↔1≤x∧x.toNat≤k∧nO q x=true:=by
 rw [kK,List.mem_map]
 constructor
 ·rintro ⟨m,hm,rfl⟩
  rw [List.mem_filter,List.mem_range] at hm
  exact ⟨by omega,by omega,by simpa using hm.2⟩
 ·rintro ⟨h1,h2,h3⟩
  refine ⟨x.toNat - 1,List.mem_filter.2 ⟨List.mem_range.2 (by omega),?_⟩,by omega⟩
  rw [show ((x.toNat - 1+1:Nat):Int)=x by omega];exact h3
def aCa (s:StoreD) (q:QueryD) (L:List Int) (n:Nat):List Int:=(List.range (n+1)).map fun m=>if ((m:Nat):Int)∈L then nG s q ((m:Nat):Int) else 0
theorem aQc (s:StoreD) (q:QueryD) (n:Nat):List.replicate (n+1) (0:Int)=aCa s q [] n:=by
 rw [aCa]
 apply List.ext_getElem?
 intro i
 rw [List.getElem?_map,List.getElem?_replicate]
 by_cases hi:i<n+1
 ·rw [if_pos hi,List.getElem?_range hi];simp
 ·rw [if_neg hi,show (List.range (n+1))[i]? =none from List.getElem?_eq_none (by simp;omega)];rfl
theorem zW (s:StoreD) (q:QueryD) (L:List Int) (n:Nat):(aCa s q L n).length=n+1:=by simp [aCa]
theorem aQd {s:StoreD} {q:QueryD} {L:List Int} {n:Nat} {x:Int} (h0:0≤x):(aCa s q L n).set x.toNat (nG s q x)=aCa s q (L++[x]) n:=by
 apply List.ext_getElem?
 intro i
 rw [List.getElem?_set,zW,aCa,aCa,List.getElem?_map,List.getElem?_map]
 by_cases hi:i<n+1
 ·rw [List.getElem?_range hi]
  by_cases e:x.toNat=i
  ·subst e
   rw [if_pos rfl,if_pos hi]
   simp [Int.toNat_of_nonneg h0]
  ·rw [if_neg e]
   have: ¬((i:Nat):Int)=x:=by omega
   simp [this]
 ·rw [show (List.range (n+1))[i]? =none from List.getElem?_eq_none (by simp;omega)]
  by_cases e:x.toNat=i
  ·subst e;rw [if_pos rfl,if_neg hi];rfl
  ·rw [if_neg e];rfl
theorem aKx (s:StoreD) (q:QueryD) (n:Nat):aCa s q (kK q n) n=0::(List.range n).map (fun m=>zV s q (m+1)):=by
 rw [aCa,List.range_succ_eq_map,List.map_cons,List.map_map]
 congr 1
 ·rw [if_neg]
  intro h
  have:=(aC9.1 h).1
  simp at this
 ·apply List.map_congr_left
  intro m hm
  have hm:=List.mem_range.1 hm
  show (if ((m+1:Nat):Int)∈kK q n then _ else _)=_
  rw [zV]
  by_cases h:nO q ((m+1:Nat):Int)=true
  ·rw [if_pos (aC9.2 ⟨by omega,by omega,h⟩),if_pos h]
  ·rw [if_neg (fun q=>h (aC9.1 q).2.2),if_neg h]
theorem aOV (s:StoreD) (q:QueryD):(fX s q).length≤16:=by
 unfold fX
 split
 ·rename_i h
  have h1:=(jP h).2.2.1
  have h2:=fR (cX h1).2.1
  have h3:=jO h1
  simp only [List.length_cons,List.length_map,List.length_range,dS]
  omega
 ·exact Nat.zero_le _
def aEO (s:StoreD) (q:QueryD) (k:Nat):List Int:=(List.range k).map fun m=>if m=0 then 0 else zV s q m
theorem aKy (s:StoreD) (q:QueryD) (n:Nat):aEO s q (n+1)=0::(List.range n).map (fun m=>zV s q (m+1)):=by
 rw [aEO,List.range_succ_eq_map,List.map_cons,List.map_map]
 congr 1
theorem aIY (s:StoreD) (q:QueryD) (k:Nat):aEO s q (k+1)=aEO s q k++[if k=0 then 0 else zV s q k]:=by
 rw [aEO,List.range_succ,List.map_append];rfl
abbrev aDV (q:QueryD):AV × List (Nat × Rs):=(.own 0,[(0,.arr 3 1 true ((kK q (dS q)).map intD))])
abbrev aIZ (q:QueryD):Prop:=cU Tryz.prog 119 [.agg [.int .i64 q.variableCount,.sl 131 2 (q.atoms.map aU)]] (aDV q).1 (aDV q).2
theorem aRu (q:QueryD) (hq3:bM q=true):aIZ q:=by
 refine aV bF aS Tryz.func119 (by kernel_rfl) (.loop (Nat × Int × (List Int)) (Q3 Nat Int (List Int)) [3,4,5,6,7,8,9,10,11,12,13,14,15,16,17,18] [500,1700,1800] (fun yy0=>[(4,vI yy0.2.1),(3,.own 500)]) (fun yy0=>[(500,some (.arr 3 1 true (yy0.2.2.map intD)))]) (fun yy0=>yy0.1≤dS q∧yy0.2.1=((yy0.1+1:Nat):Int)∧yy0.2.2=kK q yy0.1) (fun yy0=>dS q - yy0.1) (fun yy0=> .call (vI (eG q)) []<| .br (.call (vB (nO q yy0.2.1)) []<| .br (.app Int intD yy0.2.2 ([yy0.2.1]:List Int)<| .back [(500,1800)]) (.back [(500,500)])) (.fin [(0,500)]))) (p:=(q.atoms.map aU).length≤9223372036854775807→(∃(k:Nat) (m:Int) (out:List Int),(1:Int)=m∧[]=out.map intD∧k≤dS q∧m=((k+1:Nat):Int)∧out=kK q k)∧ ∀(k:Nat) (m:Int) (out:List Int),(k≤dS q∧m=((k+1:Nat):Int)∧out=kK q k)→sQ q∧(((decide (m≤(eG q)))=true→aGh q m∧(((nO q m)=true→out.map intD=out.map intD∧[[.int .i64 m]]=([m]:List Int).map intD∧(∀x,eK (intD x)=true)∧(out.length+([m]:List Int).length)*8≤140737488355328∧cG (m+(1:Int))∧ ∃(k' :Nat) (m' :Int) (out' :List Int),(m+(1:Int))=m' ∧(out++[m]).map intD=out'.map intD∧(k' ≤dS q∧m' =((k' +1:Nat):Int)∧out' =kK q k')∧dS q - k' <dS q - k)∧((nO q m)=false→cG (m+(1:Int))∧ ∃(k' :Nat) (m' :Int) (out' :List Int),(m+(1:Int))=m' ∧out.map intD=out'.map intD∧(k' ≤dS q∧m' =((k' +1:Nat):Int)∧out' =kK q k')∧dS q - k' <dS q - k)))∧((decide (m≤(eG q)))=false→out.map intD=(kK q (dS q)).map intD∧True))) (by kernel_rfl) ?_
 intro n0
 simp only [List.length_map] at n0
 have hf4:=fR (cX hq3).2.1
 have hfm:=jO hq3
 have hfn:((dS q:Nat):Int)=eG q:=by rw [dS];omega
 refine ⟨⟨0,(1:Int),([]:List Int),rfl,rfl,Nat.zero_le _,rfl,rfl⟩,fun k m out ⟨hk,hm,ho⟩=>?_⟩
 refine ⟨aDL _,fun c0=>?_,fun c0=>?_⟩
 ·replace c0:=yq c0
  refine ⟨aQ9 q m (by assumption) ⟨by omega,by omega⟩,fun c1=>?_,fun c1=>?_⟩
  ·refine ⟨rfl,rfl,fun _=>rfl,by first | omega | (rw [ho];have:=aKw q k;simp only [List.length_cons,List.length_nil];omega),?_⟩
   refine ⟨⟨by omega,by omega⟩,?_⟩
   exact ⟨k+1,_,_,rfl,rfl,⟨by omega,by omega,by first | (rw [hm] at c1;rw [ho,aKv c1,hm];done) | (rw [hm] at c1;rw [ho,aMp c1];done)⟩,by omega⟩
  ·refine ⟨⟨by omega,by omega⟩,?_⟩
   exact ⟨k+1,_,_,rfl,rfl,⟨by omega,by omega,by first | (rw [hm] at c1;rw [ho,aKv c1,hm];done) | (rw [hm] at c1;rw [ho,aMp c1];done)⟩,by omega⟩
 ·replace c0:=nq c0
  refine ⟨?_,trivial⟩
  ·rw [ho,show dS q=k by omega]
abbrev qP (s:StoreD) (q:QueryD):AV × List (Nat × Rs):=(.own 0,[(0,.arr 3 1 true ((fX s q).map intD))])
abbrev wD (s:StoreD) (q:QueryD):Prop:=cU Tryz.prog 51 [.agg [.sl 162 3 (s.database.tables.map aL),.int .i64 s.catalogue.version,.sl 121 4 (s.catalogue.tables.map aA),.sl 168 3 (s.dependencies.map aD),.sl 170 4 (s.inclusions.map aE)],.agg [.int .i64 q.variableCount,.sl 131 2 (q.atoms.map aU)]] (qP s q).1 (qP s q).2
theorem aGk (s:StoreD) (q:QueryD) (hc:cJ s≤1048576):wD s q:=by
 refine aV bF aS Tryz.func51 (by kernel_rfl) (.call (vB (kU s q (1:Int))) []<| .br (.fin []) (.call (vI (eG q)) []<| .mk (((eG q)+(1:Int)).toNat) [.int .i64 (0:Int)] ((List.replicate (((eG q)+(1:Int)).toNat) (0:Int)).map intD)<| bP (aDV q)<| .len ((kK q (dS q)).length)<| .loop (Nat × (List Int)) (Q2 Nat (List Int)) [5,7,19,20,21,22,23,24,25,26,27,28,29,30] [1500] (fun yy0=>[(19,vI (yy0.1:Int)),(5,.own 1500)]) (fun yy0=>[(1500,some (.arr 3 1 true (yy0.2.map intD)))]) (fun yy0=>yy0.1≤(kK q (dS q)).length∧yy0.2=aCa s q ((kK q (dS q)).take yy0.1) (dS q)) (fun yy0=>(kK q (dS q)).length - yy0.1) (fun yy0=> .br (.len ((kK q (dS q)).length)<| .elem _ intD (kK q (dS q)) (fun e22=> .call (vI (nG s q e22)) []<| .len yy0.2.length<| .set Int intD yy0.2 (fun s7_7=>nG s q e22) (fun s7_7=> .back [(1500,1500)]))) (.fin [(0,1500)])))) (p:=(s.database.tables.map aL).length≤9223372036854775807→(s.catalogue.tables.map aA).length≤9223372036854775807→(s.dependencies.map aD).length≤9223372036854775807→(s.inclusions.map aE).length≤9223372036854775807→(q.atoms.map aU).length≤9223372036854775807→vN s q (1:Int)∧(((!(kU s q (1:Int)))=true→[]=(fX s q).map intD∧True)∧((!(kU s q (1:Int)))=false→sQ q∧(cG ((eG q)+(1:Int))∧(((eG q)+(1:Int))=((((eG q)+(1:Int)).toNat:Nat):Int)∧((eG q)+(1:Int))=((((eG q)+(1:Int)).toNat:Nat):Int)∧8*(((eG q)+(1:Int)).toNat)≤281474976710656∧(((eG q)+(1:Int)).toNat)≤9223372036854775807∧List.replicate (((eG q)+(1:Int)).toNat) [.int .i64 (0:Int)]=(List.replicate (((eG q)+(1:Int)).toNat) (0:Int)).map intD∧(aIZ q∧(Lm intD (kK q (dS q))∧((∃(k:Nat) (out:List Int),(0:Int)=(k:Int)∧(List.replicate (((eG q)+(1:Int)).toNat) (0:Int)).map intD=out.map intD∧k≤(kK q (dS q)).length∧out=aCa s q ((kK q (dS q)).take k) (dS q))∧ ∀(k:Nat) (out:List Int),(k≤(kK q (dS q)).length∧out=aCa s q ((kK q (dS q)).take k) (dS q))→((decide ((k:Int)<(((kK q (dS q)).length:Nat):Int)))=true→0≤(k:Int)∧Lm intD (kK q (dS q))∧(k:Int)<(((kK q (dS q)).length:Nat):Int)∧Em intD (kK q (dS q)) k fun e22=>zH s q e22∧(0≤e22∧Lm intD out∧e22<((out.length:Nat):Int)∧(out.map intD=out.map intD∧(e22).toNat<out.length∧ ∀s7_7,out[(e22).toNat]? =some s7_7→eK (intD s7_7)=true∧0+1≤(intD s7_7).length∧(intD s7_7).take 0++[.int .i64 (nG s q e22)]++(intD s7_7).drop (0+1)=intD (nG s q e22)∧cG ((k:Int)+(1:Int))∧ ∃(k' :Nat) (out' :List Int),((k:Int)+(1:Int))=(k' :Int)∧(out.set ((e22).toNat) (nG s q e22)).map intD=out'.map intD∧(k' ≤(kK q (dS q)).length∧out' =aCa s q ((kK q (dS q)).take k') (dS q))∧(kK q (dS q)).length - k' <(kK q (dS q)).length - k)))∧((decide ((k:Int)<(((kK q (dS q)).length:Nat):Int)))=false→out.map intD=(fX s q).map intD∧True))))))))) (by kernel_rfl) ?_
 intro n0 n1 n2 n3 n4
 simp only [List.length_map] at n0 n1 n2 n3 n4
 refine ⟨aGP s q (1:Int) (by omega),fun c0=>?_,fun c0=>?_⟩
 ·replace c0:=nt c0
  have hbad:kU s q 1=false:=by simpa using c0
  refine ⟨?_,trivial⟩
  ·first | (rw [aC8 hbad]<;>rfl) | (rw [aAZ hq,ho,List.take_of_length_le (by omega),aKx])
 ·replace c0:=nf c0
  have hq:kU s q 1=true:=by simpa using c0
  obtain ⟨hq1,hq2,hq3,hm1,hm2,hm3,hm4,hm5⟩:=jP hq
  have hf4:=fR hm5
  have hfm:=jO hq3
  have hfn:((dS q:Nat):Int)=eG q:=by rw [dS];omega
  have hcl:=aKw q (dS q)
  refine ⟨aDL _,⟨by omega,by omega⟩,by omega,by omega,by omega,by omega,by first | (rw [List.map_replicate];done) | (rw [List.map_replicate];rfl),aRu q (by assumption),List.length_map _,⟨0,List.replicate (((eG q)+(1:Int)).toNat) (0:Int),rfl,rfl,Nat.zero_le _,by rw [show (eG q+1).toNat=dS q+1 by omega,List.take_zero];exact aQc _ _ _⟩,fun k out ⟨hk,ho⟩=>?_⟩
  refine ⟨fun c1=>?_,fun c1=>?_⟩
  ·replace c1:=yq c1
   refine ⟨by omega,List.length_map _,by first | omega | (rw [ho,zW];omega),rfl,by first | omega | (rw [ho,zW];omega),fun e22 h22=>?_⟩
   have hx:=aC9.1 (List.mem_of_getElem? h22)
   refine ⟨aIO s q e22 (by omega),by omega,List.length_map _,by first | omega | (rw [ho,zW];omega),rfl,by first | omega | (rw [ho,zW];omega),fun s7_7 hs7_7=>⟨rfl,Nat.le_of_ble_eq_true rfl,rfl,?_⟩⟩
   refine ⟨⟨by omega,by omega⟩,?_⟩
   exact ⟨k+1,_,rfl,rfl,⟨by omega,by rw [ho,cN h22,aQd (by omega)]⟩,by omega⟩
  ·replace c1:=nq c1
   refine ⟨?_,trivial⟩
   ·first | (rw [aC8 hbad]<;>rfl) | (rw [aAZ hq,ho,List.take_of_length_le (by omega),aKx])
abbrev wE (s:StoreD) (q:QueryD):AV × List (Nat × Rs):=(.own 0,[(0,.arr 3 1 true ((fX s q).map intD))])
abbrev aCb (s:StoreD) (q:QueryD):Prop:=cU Tryz.prog 50 [.agg [.sl 162 3 (s.database.tables.map aL),.int .i64 s.catalogue.version,.sl 121 4 (s.catalogue.tables.map aA),.sl 168 3 (s.dependencies.map aD),.sl 170 4 (s.inclusions.map aE)],.agg [.int .i64 q.variableCount,.sl 131 2 (q.atoms.map aU)]] (wE s q).1 (wE s q).2
theorem aLv (s:StoreD) (q:QueryD) (hc:cJ s≤1048576):aCb s q:=by
 refine aV bF aS Tryz.func50 (by kernel_rfl) (.call (vI (eG q)) []<| .call (vB (kU s q (eG q))) []<| .br (.fin [(0,800)]) (.loop (Nat × (List Int)) (Q2 Nat (List Int)) [5,6,7,8,16,17,18,19,20,21,22,23,24,25,26,27,28,29,30,31,32] [800,3100,3200] (fun yy0=>[(6,vI (yy0.1:Int)),(5,.own 800)]) (fun yy0=>[(800,some (.arr 3 1 true (yy0.2.map intD)))]) (fun yy0=>yy0.1≤dS q+1∧yy0.2=aEO s q yy0.1) (fun yy0=>dS q+1 - yy0.1) (fun yy0=> .call (vI (eG q)) []<| .br (.call (vB (decide (0<(yy0.1:Int))&&nO q (yy0.1:Int))) []<| .br (.call (vI (nG s q (yy0.1:Int))) []<| .app Int intD yy0.2 ([nG s q (yy0.1:Int)]:List Int)<| .back [(800,3200)]) (.app Int intD yy0.2 ([(0:Int)]:List Int)<| .back [(800,3200)])) (.fin [(0,800)])))) (p:=(s.database.tables.map aL).length≤9223372036854775807→(s.catalogue.tables.map aA).length≤9223372036854775807→(s.dependencies.map aD).length≤9223372036854775807→(s.inclusions.map aE).length≤9223372036854775807→(q.atoms.map aU).length≤9223372036854775807→sR q∧(rX s q (eG q)∧(((!(kU s q (eG q)))=true→[]=(fX s q).map intD∧True)∧((!(kU s q (eG q)))=false→(∃(k:Nat) (out:List Int),(0:Int)=(k:Int)∧[]=out.map intD∧k≤dS q+1∧out=aEO s q k)∧ ∀(k:Nat) (out:List Int),(k≤dS q+1∧out=aEO s q k)→sR q∧(((decide ((k:Int)≤(eG q)))=true→aGj q (k:Int)∧(((decide (0<(k:Int))&&nO q (k:Int))=true→zI s q (k:Int)∧out.map intD=out.map intD∧[[.int .i64 (nG s q (k:Int))]]=([nG s q (k:Int)]:List Int).map intD∧(∀x,eK (intD x)=true)∧(out.length+([nG s q (k:Int)]:List Int).length)*8≤140737488355328∧cG ((k:Int)+(1:Int))∧ ∃(k' :Nat) (out' :List Int),((k:Int)+(1:Int))=(k' :Int)∧(out++[nG s q (k:Int)]).map intD=out'.map intD∧(k' ≤dS q+1∧out' =aEO s q k')∧dS q+1 - k' <dS q+1 - k)∧((decide (0<(k:Int))&&nO q (k:Int))=false→out.map intD=out.map intD∧[[.int .i64 (0:Int)]]=([(0:Int)]:List Int).map intD∧(∀x,eK (intD x)=true)∧(out.length+([(0:Int)]:List Int).length)*8≤140737488355328∧cG ((k:Int)+(1:Int))∧ ∃(k' :Nat) (out' :List Int),((k:Int)+(1:Int))=(k' :Int)∧(out++[(0:Int)]).map intD=out'.map intD∧(k' ≤dS q+1∧out' =aEO s q k')∧dS q+1 - k' <dS q+1 - k)))∧((decide ((k:Int)≤(eG q)))=false→out.map intD=(fX s q).map intD∧True)))))) (by kernel_rfl) ?_
 intro n0 n1 n2 n3 n4
 simp only [List.length_map] at n0 n1 n2 n3 n4
 refine ⟨aDM _,aCY s q (eG q) (by omega),fun c0=>?_,fun c0=>?_⟩
 ·replace c0:=nt c0
  have hbad:kU s q 1=false:=by rw [←aMe];simpa using c0
  refine ⟨?_,trivial⟩
  ·first | (rw [aC8 hbad]<;>rfl) | (rw [aAZ hq,ho,show k=dS q+1 by omega,aKy])
 ·replace c0:=nf c0
  have hq:kU s q 1=true:=by rw [←aMe];simpa using c0
  obtain ⟨hq1,hq2,hq3,hm1,hm2,hm3,hm4,hm5⟩:=jP hq
  have hf4:=fR hm5
  have hfm:=jO hq3
  have hfn:((dS q:Nat):Int)=eG q:=by rw [dS];omega
  refine ⟨⟨0,([]:List Int),rfl,rfl,Nat.zero_le _,rfl⟩,fun k out ⟨hk,ho⟩=>?_⟩
  refine ⟨aDM _,fun c1=>?_,fun c1=>?_⟩
  ·replace c1:=yq c1
   refine ⟨aQb q (k:Int) (by assumption) ⟨by omega,by omega⟩,fun c2=>?_,fun c2=>?_⟩
   ·rw [Bool.and_eq_true,decide_eq_true_eq] at c2
    have hL:(if k=0 then 0 else zV s q k)=nG s q ((k:Nat):Int):=by rw [if_neg (by omega),zV,if_pos c2.2]
    refine ⟨aIP s q (k:Int) (by omega),rfl,rfl,fun _=>rfl,by first | omega | (rw [ho];simp [aEO];omega),?_⟩
    refine ⟨⟨by omega,by omega⟩,?_⟩
    exact ⟨k+1,_,rfl,rfl,⟨by omega,by rw [ho,aIY,hL]⟩,by omega⟩
   ·have hL:(if k=0 then 0 else zV s q k)=0:=by (by_cases h0:k=0;rw [if_pos h0];rw [if_neg h0,zV,if_neg (fun z=>by rw [z,decide_eq_true (show 0<((k:Nat):Int) by omega)] at c2;cases c2)])
    refine ⟨rfl,rfl,fun _=>rfl,by first | omega | (rw [ho];simp [aEO];omega),?_⟩
    refine ⟨⟨by omega,by omega⟩,?_⟩
    exact ⟨k+1,_,rfl,rfl,⟨by omega,by rw [ho,aIY,hL]⟩,by omega⟩
  ·replace c1:=nq c1
   refine ⟨?_,trivial⟩
   ·first | (rw [aC8 hbad]<;>rfl) | (rw [aAZ hq,ho,show k=dS q+1 by omega,aKy])
theorem lawLowerBounds (a0:StoreD) (a1:QueryD) (h0:aFV a0) (h1:aFS a1):cU Tryz.prog 11 [.agg [.sl 162 3 (a0.database.tables.map aL),.int .i64 a0.catalogue.version,.sl 121 4 (a0.catalogue.tables.map aA),.sl 168 3 (a0.dependencies.map aD),.sl 170 4 (a0.inclusions.map aE)],.agg [.int .i64 a1.variableCount,.sl 131 2 (a1.atoms.map aU)]] (vB true) []:=by
 refine aV bF aS Tryz.func11 (by kernel_rfl) (.call (vI (aO (cJ a0) (1048576:Int))) []<| .br (.fin []) (.call (vI (aO (jL a1) (aO (cJ a0) (1048576:Int)))) []<| .br (.fin []) (bP (gD a0)<| bP (gE a1)<| bP (wE a0 a1)<| bP (gD a0)<| bP (gE a1)<| bP (qP a0 a1)<| .call (vB true) []<| bP (gD a0)<| .call (vB true) []<| bP (gE a1)<| .call (vB true) []<| jE (oN a0 (1:Int)) [(0,3000),(1,3001),(2,3002),(3,3003)]<| jE (oO a1 ((1:Int)+((kJ a0:Nat):Int))) [(0,3200)]<| .no<| .call (vB true) []<| jE (jR (fX a0 a1) (1:Int)) [(0,3500)]<| .call (vI ((1:Int)+((bX (fX a0 a1):Nat):Int))) []<| .no<| .no<| bP (gD a0)<| bP (gE a1)<| bP (qP a0 a1)<| .call (vB true) []<| .call (vI ((1:Int)+((bX (fX a0 a1):Nat):Int))) []<| .no<| .no<| .fin []))) (p:=(a0.database.tables.map aL).length≤9223372036854775807→(a0.catalogue.tables.map aA).length≤9223372036854775807→(a0.dependencies.map aD).length≤9223372036854775807→(a0.inclusions.map aE).length≤9223372036854775807→(a1.atoms.map aU).length≤9223372036854775807→vW a0 (1048576:Int)∧(((decide ((aO (cJ a0) (1048576:Int))<(0:Int)))=true→(true)=true∧True)∧((decide ((aO (cJ a0) (1048576:Int))<(0:Int)))=false→vX a1 (aO (cJ a0) (1048576:Int))∧(((decide ((aO (jL a1) (aO (cJ a0) (1048576:Int)))<(0:Int)))=true→(true)=true∧True)∧((decide ((aO (jL a1) (aO (cJ a0) (1048576:Int)))<(0:Int)))=false→gQ a0∧gR a1∧aCb a0 a1∧gQ a0∧gR a1∧wD a0 a1∧jQ (fX a0 a1)∧gQ a0∧vU a0∧gR a1∧vV a1∧aBW a0 (1:Int)∧a0.catalogue.version=a0.catalogue.version∧(1:Int)=(1:Int)∧a0.database.tables.map aL=a0.database.tables.map aL∧a0.catalogue.tables.map aA=a0.catalogue.tables.map aA∧a0.dependencies.map aD=a0.dependencies.map aD∧a0.inclusions.map aE=a0.inclusions.map aE∧aBY a1 ((1:Int)+((kJ a0:Nat):Int))∧a1.variableCount=a1.variableCount∧((1:Int)+((kJ a0:Nat):Int))=((1:Int)+((kJ a0:Nat):Int))∧a1.atoms.map aU=a1.atoms.map aU∧(decide ((((1:Int)+((kJ a0:Nat):Int))+((wB a1:Nat):Int))<(0:Int)))=false∧jQ (fX a0 a1)∧mR (fX a0 a1) (1:Int)∧(1:Int)=(1:Int)∧(fX a0 a1).map intD=(fX a0 a1).map intD∧cU Tryz.prog 49 [.one (.sl 3 1 ((cM (1:Int) (fX a0 a1)).map intD)),.one (.int .i64 (1:Int))] (vI ((1:Int)+((bX (fX a0 a1):Nat):Int))) []∧(decide (((1:Int)+((bX (fX a0 a1):Nat):Int))<(0:Int)))=false∧(!(decide (((1:Int)+((bX (fX a0 a1):Nat):Int))=((1:Int)+((bX (fX a0 a1):Nat):Int)))))=false∧gQ a0∧gR a1∧wD a0 a1∧jQ (fX a0 a1)∧cU Tryz.prog 49 [.one (.sl 3 1 ((cM (1:Int) (fX a0 a1)).map intD)),.one (.int .i64 (1:Int))] (vI ((1:Int)+((bX (fX a0 a1):Nat):Int))) []∧(decide (((1:Int)+((bX (fX a0 a1):Nat):Int))<(0:Int)))=false∧(!(decide (((1:Int)+((bX (fX a0 a1):Nat):Int))=((1:Int)+((bX (fX a0 a1):Nat):Int)))))=false∧(true)=true∧True))))) (by kernel_rfl) ?_
 intro n0 n1 n2 n3 n4
 simp only [List.length_map] at n0 n1 n2 n3 n4
 refine ⟨aG4 a0 _ (by first | assumption | exact hf) (by omega) (by omega),fun c0=>?_,fun c0=>?_⟩
 ·replace c0:=yq c0
  refine ⟨?_,trivial⟩
  ·rfl
 ·replace c0:=nq c0
  try (have y0:=gL c0;try rw [aN y0] at*)
  refine ⟨aG6 a1 _ (by first | assumption | exact hf) (by omega) (by omega),fun c1=>?_,fun c1=>?_⟩
  ·replace c1:=yq c1
   refine ⟨?_,trivial⟩
   ·rfl
  ·replace c1:=nq c1
   try (have y1:=gL c1;try rw [aN y1] at*)
   have f1:=aOV a0 a1
   have f2:=iM (fX a0 a1)
   have f3:bZ (fX a0 a1)=(fX a0 a1).length:=rfl
   have sa0:=aG9 a0
   have sa1:=aGe a1
   refine ⟨lI a0 (by first | omega | (have:=cStoreS_el ‹x[k]? =some _›;omega)),lJ a1 (by first | omega | (have:=cQueryS_el ‹x[k]? =some _›;omega)),aLv a0 a1 (by omega),lI a0 (by first | omega | (have:=cStoreS_el ‹x[k]? =some _›;omega)),lJ a1 (by first | omega | (have:=cQueryS_el ‹x[k]? =some _›;omega)),aGk a0 a1 (by omega),by first | exact fW (fX a0 a1) | exact fW _,lI a0 (by first | omega | (have:=cStoreS_el ‹x[k]? =some _›;omega)),by first | exact uF a0 | exact uF _,lJ a1 (by first | omega | (have:=cQueryS_el ‹x[k]? =some _›;omega)),by first | exact uG a1 | exact uG _,aKo _ _ (by omega) (by first | omega | (dsimp only;omega)),rfl,rfl,rfl,rfl,rfl,rfl,aKp _ _ (by omega) (by first | omega | (dsimp only;omega)),rfl,rfl,rfl,by first | (simp;done) | (simp;omega) | (simp [*];done),by first | exact fW (fX a0 a1) | exact fW _,wA _ _ (by omega) (by first | omega | (dsimp only;omega)),rfl,rfl,aE8 _ _ (by omega) (by first | omega | (dsimp only;omega)),by first | (simp;done) | (simp;omega) | (simp [*];done),by first | (simp;done) | (simp;omega) | (simp [*];done),lI a0 (by first | omega | (have:=cStoreS_el ‹x[k]? =some _›;omega)),lJ a1 (by first | omega | (have:=cQueryS_el ‹x[k]? =some _›;omega)),aGk a0 a1 (by omega),by first | exact fW (fX a0 a1) | exact fW _,aE8 _ _ (by omega) (by first | omega | (dsimp only;omega)),by first | (simp;done) | (simp;omega) | (simp [*];done),by first | (simp;done) | (simp;omega) | (simp [*];done),?_,trivial⟩
   ·rfl
end Go.Proofs.YtokkjaflmcjlhaaGreat
namespace Go.Proofs.YtokkjaflmcjlhaaGreat
open Go.ChangeShapes Go.WideShapes Go.ChangeAt Go.RowKit
set_option linter.unusedVariables false
set_option linter.unusedSimpArgs false
set_option maxRecDepth 100000
set_option maxHeartbeats 4000000
def aQe:Rd (List Int):=fun w cs l=>iQ (Lv w) w (aF l) cs∧aD4 l
theorem zX {H:Type} {enc:TypeId × Value→H} {w:World} {base:Nat} {spare:Nat→Bool} {held:Bool} {fuel:Nat} {cs:List Value} {x:DataW H × List MemPlace} (h:DataW.trod enc Tryz.prog w base spare held fuel 32 cs=some x): ∃l,aQe w cs l:=by
 obtain ⟨l,hl⟩:=lD (k:=1) (R:=aMq) Tryz.underlying32 (by kernel_rfl) (by omega) (fun _ _ _ h=>trod_int Tryz.underlying3 h) h
 have hf:aD4 l:=hl.all_ (fun _ _ _ h=>h.2)
 obtain ⟨A,c,rfl,_⟩:=id hl
 exact ⟨l,eP (pC (R:=aMq) (enc:=intD) (fun cs x h=>by obtain ⟨rfl,_⟩:=h;exact eP rdV_int gZ) hl) gZ,hf⟩
def aTR:Rd (List (List Int)):=fun w cs l=>iQ (Lv w) w (aTB l) cs∧aFQ l
theorem aI0 {H:Type} {enc:TypeId × Value→H} {w:World} {base:Nat} {spare:Nat→Bool} {held:Bool} {fuel:Nat} {cs:List Value} {x:DataW H × List MemPlace} (h:DataW.trod enc Tryz.prog w base spare held fuel 160 cs=some x): ∃l,aTR w cs l:=by
 obtain ⟨l,hl⟩:=lD (k:=1) (R:=aQe) Tryz.underlying160 (by kernel_rfl) (by omega) (fun _ _ _ h=>zX h) h
 have hf:aFQ l:=hl.all_ (fun _ _ _ h=>h.2)
 obtain ⟨A,c,rfl,_⟩:=id hl
 exact ⟨l,eP (pC (R:=aQe) (enc:=aF) (fun cs x h=>h.1) hl) gZ,hf⟩
def aLw:Rd aR:=fun w cs x=>iQ (Lv w) w (aL x) cs∧aL0 x
set_option maxRecDepth 100000 in
theorem aOW {H:Type} {enc:TypeId × Value→H} {w:World} {base:Nat} {spare:Nat→Bool} {held:Bool} {fuel:Nat} {cs:List Value} {x:DataW H × List MemPlace} (h:DataW.trod enc Tryz.prog w base spare held fuel 202 cs=some x): ∃b,aLw w cs b:=by
 obtain ⟨xs,n,_,_,hl,hxl,hf⟩:=DataW.trod_struct Tryz.underlying202 h
 have hl2:cs.length=3:=hl.trans (by kernel_rfl)
 match cs,hl2 with
 | [c0,c1,c2],_=>
   match xs,hxl with
   | [y0,y1,y2],_=>
     obtain ⟨l0,r0⟩:=tH Tryz.underlying9 (hf 0 _ rfl)
     obtain ⟨l1,r1⟩:=trod_int Tryz.underlying3 (hf 1 _ rfl)
     obtain ⟨l2,r2,f2⟩:=aI0 (hf 2 _ rfl)
     exact ⟨⟨l0,l1,l2⟩,(eP (rdS r0) (eP (rdI r1) (iQ.append r2 gZ))),r0.2,r1.2,f2⟩
def aRv:Rd (List aR):=fun w cs l=>iQ (Lv w) w (aR8 l) cs∧aEX l
theorem aLx {H:Type} {enc:TypeId × Value→H} {w:World} {base:Nat} {spare:Nat→Bool} {held:Bool} {fuel:Nat} {cs:List Value} {x:DataW H × List MemPlace} (h:DataW.trod enc Tryz.prog w base spare held fuel 22 cs=some x): ∃l,aRv w cs l:=by
 obtain ⟨l,hl⟩:=lD (k:=3) (R:=aLw) Tryz.underlying22 (by kernel_rfl) (by omega) (fun _ _ _ h=>aOW h) h
 have hf:aEX l:=hl.all_ (fun _ _ _ h=>h.2)
 obtain ⟨A,c,rfl,_⟩:=id hl
 exact ⟨l,eP (pC (R:=aLw) (enc:=aL) (fun cs x h=>h.1) hl) gZ,hf⟩
def aOX:Rd aT:=fun w cs x=>iQ (Lv w) w (aN3 x) cs∧aCv x
set_option maxRecDepth 100000 in
theorem aJO {H:Type} {enc:TypeId × Value→H} {w:World} {base:Nat} {spare:Nat→Bool} {held:Bool} {fuel:Nat} {cs:List Value} {x:DataW H × List MemPlace} (h:DataW.trod enc Tryz.prog w base spare held fuel 24 cs=some x): ∃b,aOX w cs b:=by
 obtain ⟨xs,n,_,_,hl,hxl,hf⟩:=DataW.trod_struct Tryz.underlying24 h
 have hl2:cs.length=1:=hl.trans (by kernel_rfl)
 match cs,hl2 with
 | [c0],_=>
   match xs,hxl with
   | [y0],_=>
     obtain ⟨l0,r0,f0⟩:=aLx (hf 0 _ rfl)
     exact ⟨⟨l0⟩,(iQ.append r0 gZ),f0⟩
def aQf:Rd bK:=fun w cs x=>iQ (Lv w) w (aU x) cs∧aP5 x
set_option maxRecDepth 100000 in
theorem aQg {H:Type} {enc:TypeId × Value→H} {w:World} {base:Nat} {spare:Nat→Bool} {held:Bool} {fuel:Nat} {cs:List Value} {x:DataW H × List MemPlace} (h:DataW.trod enc Tryz.prog w base spare held fuel 185 cs=some x): ∃b,aQf w cs b:=by
 obtain ⟨xs,n,_,_,hl,hxl,hf⟩:=DataW.trod_struct Tryz.underlying185 h
 have hl2:cs.length=2:=hl.trans (by kernel_rfl)
 match cs,hl2 with
 | [c0,c1],_=>
   match xs,hxl with
   | [y0,y1],_=>
     obtain ⟨l0,r0⟩:=tH Tryz.underlying9 (hf 0 _ rfl)
     obtain ⟨l1,r1,f1⟩:=zX (hf 1 _ rfl)
     exact ⟨⟨l0,l1⟩,(eP (rdS r0) (iQ.append r1 gZ)),r0.2,f1⟩
def aTS:Rd (List bK):=fun w cs l=>iQ (Lv w) w (aTC l) cs∧aIn l
theorem aOY {H:Type} {enc:TypeId × Value→H} {w:World} {base:Nat} {spare:Nat→Bool} {held:Bool} {fuel:Nat} {cs:List Value} {x:DataW H × List MemPlace} (h:DataW.trod enc Tryz.prog w base spare held fuel 66 cs=some x): ∃l,aTS w cs l:=by
 obtain ⟨l,hl⟩:=lD (k:=2) (R:=aQf) Tryz.underlying66 (by kernel_rfl) (by omega) (fun _ _ _ h=>aQg h) h
 have hf:aIn l:=hl.all_ (fun _ _ _ h=>h.2)
 obtain ⟨A,c,rfl,_⟩:=id hl
 exact ⟨l,eP (pC (R:=aQf) (enc:=aU) (fun cs x h=>h.1) hl) gZ,hf⟩
def RQuery:Rd QueryD:=fun w cs x=>iQ (Lv w) w (aTD x) cs∧aFS x
set_option maxRecDepth 100000 in
theorem openQuery {H:Type} {enc:TypeId × Value→H} {w:World} {base:Nat} {spare:Nat→Bool} {held:Bool} {fuel:Nat} {cs:List Value} {x:DataW H × List MemPlace} (h:DataW.trod enc Tryz.prog w base spare held fuel 68 cs=some x): ∃b,RQuery w cs b:=by
 obtain ⟨xs,n,_,_,hl,hxl,hf⟩:=DataW.trod_struct Tryz.underlying68 h
 have hl2:cs.length=2:=hl.trans (by kernel_rfl)
 match cs,hl2 with
 | [c0,c1],_=>
   match xs,hxl with
   | [y0,y1],_=>
     obtain ⟨l0,r0⟩:=trod_int Tryz.underlying3 (hf 0 _ rfl)
     obtain ⟨l1,r1,f1⟩:=aOY (hf 1 _ rfl)
     exact ⟨⟨l0,l1⟩,(eP (rdI r0) (iQ.append r1 gZ)),r0.2,f1⟩
def zY:Rd aH:=fun w cs x=>iQ (Lv w) w (aB x) cs∧yC x
set_option maxRecDepth 100000 in
theorem aGl {H:Type} {enc:TypeId × Value→H} {w:World} {base:Nat} {spare:Nat→Bool} {held:Bool} {fuel:Nat} {cs:List Value} {x:DataW H × List MemPlace} (h:DataW.trod enc Tryz.prog w base spare held fuel 251 cs=some x): ∃b,zY w cs b:=by
 obtain ⟨xs,n,_,_,hl,hxl,hf⟩:=DataW.trod_struct Tryz.underlying251 h
 have hl2:cs.length=3:=hl.trans (by kernel_rfl)
 match cs,hl2 with
 | [c0,c1,c2],_=>
   match xs,hxl with
   | [y0,y1,y2],_=>
     obtain ⟨l0,r0,f0⟩:=zX (hf 0 _ rfl)
     obtain ⟨l1,r1,f1⟩:=aI0 (hf 1 _ rfl)
     obtain ⟨l2,r2,f2⟩:=zX (hf 2 _ rfl)
     exact ⟨⟨l0,l1,l2⟩,(iQ.append r0 (iQ.append r1 (iQ.append r2 gZ))),f0,f1,f2⟩
def aJP:Rd (List aH):=fun w cs l=>iQ (Lv w) w (aIo l) cs∧qG l
theorem aEP {H:Type} {enc:TypeId × Value→H} {w:World} {base:Nat} {spare:Nat→Bool} {held:Bool} {fuel:Nat} {cs:List Value} {x:DataW H × List MemPlace} (h:DataW.trod enc Tryz.prog w base spare held fuel 204 cs=some x): ∃l,aJP w cs l:=by
 obtain ⟨l,hl⟩:=lD (k:=3) (R:=zY) Tryz.underlying204 (by kernel_rfl) (by omega) (fun _ _ _ h=>aGl h) h
 have hf:qG l:=hl.all_ (fun _ _ _ h=>h.2)
 obtain ⟨A,c,rfl,_⟩:=id hl
 exact ⟨l,eP (pC (R:=zY) (enc:=aB) (fun cs x h=>h.1) hl) gZ,hf⟩
def zZ:Rd aC:=fun w cs x=>iQ (Lv w) w (aA x) cs∧yD x
set_option maxRecDepth 100000 in
theorem aGm {H:Type} {enc:TypeId × Value→H} {w:World} {base:Nat} {spare:Nat→Bool} {held:Bool} {fuel:Nat} {cs:List Value} {x:DataW H × List MemPlace} (h:DataW.trod enc Tryz.prog w base spare held fuel 206 cs=some x): ∃b,zZ w cs b:=by
 obtain ⟨xs,n,_,_,hl,hxl,hf⟩:=DataW.trod_struct Tryz.underlying206 h
 have hl2:cs.length=4:=hl.trans (by kernel_rfl)
 match cs,hl2 with
 | [c0,c1,c2,c3],_=>
   match xs,hxl with
   | [y0,y1,y2,y3],_=>
     obtain ⟨l0,r0⟩:=tH Tryz.underlying9 (hf 0 _ rfl)
     obtain ⟨l1,r1⟩:=trod_int Tryz.underlying3 (hf 1 _ rfl)
     obtain ⟨l2,r2⟩:=trod_int Tryz.underlying3 (hf 2 _ rfl)
     obtain ⟨l3,r3,f3⟩:=aEP (hf 3 _ rfl)
     exact ⟨⟨l0,l1,l2,l3⟩,(eP (rdS r0) (eP (rdI r1) (eP (rdI r2) (iQ.append r3 gZ)))),r0.2,r1.2,r2.2,f3⟩
def aJQ:Rd (List aC):=fun w cs l=>iQ (Lv w) w (aIp l) cs∧qH l
theorem aEQ {H:Type} {enc:TypeId × Value→H} {w:World} {base:Nat} {spare:Nat→Bool} {held:Bool} {fuel:Nat} {cs:List Value} {x:DataW H × List MemPlace} (h:DataW.trod enc Tryz.prog w base spare held fuel 25 cs=some x): ∃l,aJQ w cs l:=by
 obtain ⟨l,hl⟩:=lD (k:=4) (R:=zZ) Tryz.underlying25 (by kernel_rfl) (by omega) (fun _ _ _ h=>aGm h) h
 have hf:qH l:=hl.all_ (fun _ _ _ h=>h.2)
 obtain ⟨A,c,rfl,_⟩:=id hl
 exact ⟨l,eP (pC (R:=zZ) (enc:=aA) (fun cs x h=>h.1) hl) gZ,hf⟩
def aLy:Rd bS:=fun w cs x=>iQ (Lv w) w (aL1 x) cs∧aAr x
set_option maxRecDepth 100000 in
theorem aHN {H:Type} {enc:TypeId × Value→H} {w:World} {base:Nat} {spare:Nat→Bool} {held:Bool} {fuel:Nat} {cs:List Value} {x:DataW H × List MemPlace} (h:DataW.trod enc Tryz.prog w base spare held fuel 27 cs=some x): ∃b,aLy w cs b:=by
 obtain ⟨xs,n,_,_,hl,hxl,hf⟩:=DataW.trod_struct Tryz.underlying27 h
 have hl2:cs.length=2:=hl.trans (by kernel_rfl)
 match cs,hl2 with
 | [c0,c1],_=>
   match xs,hxl with
   | [y0,y1],_=>
     obtain ⟨l0,r0⟩:=trod_int Tryz.underlying3 (hf 0 _ rfl)
     obtain ⟨l1,r1,f1⟩:=aEQ (hf 1 _ rfl)
     exact ⟨⟨l0,l1⟩,(eP (rdI r0) (iQ.append r1 gZ)),r0.2,f1⟩
def aAA:Rd aM:=fun w cs x=>iQ (Lv w) w (aD x) cs∧yE x
set_option maxRecDepth 100000 in
theorem aGn {H:Type} {enc:TypeId × Value→H} {w:World} {base:Nat} {spare:Nat→Bool} {held:Bool} {fuel:Nat} {cs:List Value} {x:DataW H × List MemPlace} (h:DataW.trod enc Tryz.prog w base spare held fuel 154 cs=some x): ∃b,aAA w cs b:=by
 obtain ⟨xs,n,_,_,hl,hxl,hf⟩:=DataW.trod_struct Tryz.underlying154 h
 have hl2:cs.length=3:=hl.trans (by kernel_rfl)
 match cs,hl2 with
 | [c0,c1,c2],_=>
   match xs,hxl with
   | [y0,y1,y2],_=>
     obtain ⟨l0,r0⟩:=tH Tryz.underlying9 (hf 0 _ rfl)
     obtain ⟨l1,r1,f1⟩:=zX (hf 1 _ rfl)
     obtain ⟨l2,r2⟩:=trod_int Tryz.underlying3 (hf 2 _ rfl)
     exact ⟨⟨l0,l1,l2⟩,(eP (rdS r0) (iQ.append r1 (eP (rdI r2) gZ))),r0.2,f1,r2.2⟩
def aJR:Rd (List aM):=fun w cs l=>iQ (Lv w) w (aIq l) cs∧qI l
theorem aER {H:Type} {enc:TypeId × Value→H} {w:World} {base:Nat} {spare:Nat→Bool} {held:Bool} {fuel:Nat} {cs:List Value} {x:DataW H × List MemPlace} (h:DataW.trod enc Tryz.prog w base spare held fuel 28 cs=some x): ∃l,aJR w cs l:=by
 obtain ⟨l,hl⟩:=lD (k:=3) (R:=aAA) Tryz.underlying28 (by kernel_rfl) (by omega) (fun _ _ _ h=>aGn h) h
 have hf:qI l:=hl.all_ (fun _ _ _ h=>h.2)
 obtain ⟨A,c,rfl,_⟩:=id hl
 exact ⟨l,eP (pC (R:=aAA) (enc:=aD) (fun cs x h=>h.1) hl) gZ,hf⟩
def aBZ:Rd aG:=fun w cs x=>iQ (Lv w) w (aE x) cs∧aAs x
set_option maxRecDepth 100000 in
theorem aHO {H:Type} {enc:TypeId × Value→H} {w:World} {base:Nat} {spare:Nat→Bool} {held:Bool} {fuel:Nat} {cs:List Value} {x:DataW H × List MemPlace} (h:DataW.trod enc Tryz.prog w base spare held fuel 157 cs=some x): ∃b,aBZ w cs b:=by
 obtain ⟨xs,n,_,_,hl,hxl,hf⟩:=DataW.trod_struct Tryz.underlying157 h
 have hl2:cs.length=4:=hl.trans (by kernel_rfl)
 match cs,hl2 with
 | [c0,c1,c2,c3],_=>
   match xs,hxl with
   | [y0,y1,y2,y3],_=>
     obtain ⟨l0,r0⟩:=tH Tryz.underlying9 (hf 0 _ rfl)
     obtain ⟨l1,r1⟩:=trod_int Tryz.underlying3 (hf 1 _ rfl)
     obtain ⟨l2,r2⟩:=tH Tryz.underlying9 (hf 2 _ rfl)
     obtain ⟨l3,r3⟩:=trod_int Tryz.underlying3 (hf 3 _ rfl)
     exact ⟨⟨l0,l1,l2,l3⟩,(eP (rdS r0) (eP (rdI r1) (eP (rdS r2) (eP (rdI r3) gZ)))),r0.2,r1.2,r2.2,r3.2⟩
def aKz:Rd (List aG):=fun w cs l=>iQ (Lv w) w (aKA l) cs∧sL l
theorem aGo {H:Type} {enc:TypeId × Value→H} {w:World} {base:Nat} {spare:Nat→Bool} {held:Bool} {fuel:Nat} {cs:List Value} {x:DataW H × List MemPlace} (h:DataW.trod enc Tryz.prog w base spare held fuel 29 cs=some x): ∃l,aKz w cs l:=by
 obtain ⟨l,hl⟩:=lD (k:=4) (R:=aBZ) Tryz.underlying29 (by kernel_rfl) (by omega) (fun _ _ _ h=>aHO h) h
 have hf:sL l:=hl.all_ (fun _ _ _ h=>h.2)
 obtain ⟨A,c,rfl,_⟩:=id hl
 exact ⟨l,eP (pC (R:=aBZ) (enc:=aE) (fun cs x h=>h.1) hl) gZ,hf⟩
def RStore:Rd StoreD:=fun w cs x=>iQ (Lv w) w (aTE x) cs∧aFV x
set_option maxRecDepth 100000 in
theorem openStore {H:Type} {enc:TypeId × Value→H} {w:World} {base:Nat} {spare:Nat→Bool} {held:Bool} {fuel:Nat} {cs:List Value} {x:DataW H × List MemPlace} (h:DataW.trod enc Tryz.prog w base spare held fuel 31 cs=some x): ∃b,RStore w cs b:=by
 obtain ⟨xs,n,_,_,hl,hxl,hf⟩:=DataW.trod_struct Tryz.underlying31 h
 have hl2:cs.length=5:=hl.trans (by kernel_rfl)
 match cs,hl2 with
 | [c0,c1,c2,c3,c4],_=>
   match xs,hxl with
   | [y0,y1,y2,y3],_=>
     obtain ⟨l0,r0,f0⟩:=aJO (hf 0 _ rfl)
     obtain ⟨l1,r1,f1⟩:=aHN (hf 1 _ rfl)
     obtain ⟨l2,r2,f2⟩:=aER (hf 2 _ rfl)
     obtain ⟨l3,r3,f3⟩:=aGo (hf 3 _ rfl)
     exact ⟨⟨l0,l1,l2,l3⟩,(iQ.append r0 (iQ.append r1 (iQ.append r2 (iQ.append r3 gZ)))),f0,f1,f2,f3⟩
end Go.Proofs.YtokkjaflmcjlhaaGreat
namespace Go.Proofs.YtokkjaflmcjlhaaGreat
open Go.ChangeShapes Go.WideShapes Go.ChangeAt Go.RowKit
set_option linter.unusedVariables false
set_option linter.unusedSimpArgs false
set_option maxRecDepth 100000
set_option maxHeartbeats 4000000
theorem fr_own:ownKnob Tryz.prog.godebug=none:=by kernel_rfl
theorem fr_laid:laidOutB Tryz.prog=true:=by kernel_rfl
theorem fr_maps:mapsRowed Tryz.prog=true:=by kernel_rfl
theorem fr_stops:(Tryz.prog.stops== [])=true:=by kernel_rfl
theorem fr_sk:(Tryz.prog.stopKnobs== [])=true:=by kernel_rfl
theorem fr_heard:Tryz.prog.stopsHeard=true:=by kernel_rfl
theorem fr_enter:Tryz.prog.mayEnter=true:=by kernel_rfl
theorem fr_keys:(Rows.fnExactUpdateStoreRow.plainKeys==Tryz.prog.plainKeys)=true:=by kernel_rfl
theorem fr_lifts:(Rows.fnExactUpdateStoreRow.lifted==Tryz.prog.liftsFinal)=true:=by kernel_rfl
theorem fr_make:(Tryz.prog.make==some Rows.fnExactUpdateStoreRow.make)=true:=by kernel_rfl
end Go.Proofs.YtokkjaflmcjlhaaGreat
