/-
  Contracts and plain laws, joined: part 20.
-/
import Derived.Test.YtdfebigfnjfgpaaGreatQI18
import Derived.Test.YtdfebigfnjfgpaaGreatQI17
import Derived.Test.YtdfebigfnjfgpaaGreatQI15
import Derived.Test.YtdfebigfnjfgpaaGreatQI14
namespace Go.Proofs.YtdfebigfnjfgpaaGreat
open Go.ChangeShapes Go.WideShapes Go.ChangeAt Go.RowKit
set_option linter.unusedVariables false
set_option linter.unusedSimpArgs false
set_option maxRecDepth 100000
set_option maxHeartbeats 4000000
theorem qZ {α:Type} {l:List α} {k:Nat} {x y:α} (h:l[k]? =some x):l.getD k y=x:=by simp [List.getD_eq_getElem?_getD,h]
theorem aET {p:Nat→Bool} {k:Nat} (h:(List.range k).all p=true) (hk:p k=true):(List.range (k+1)).all p=true:=by
 rw [List.range_succ,List.all_append,h]
 simp [hk]
theorem sY {p:Nat→Bool} {n k:Nat} (hk:k<n) (h:p k=false):(List.range n).all p=false:=by
 rw [List.all_eq_false]
 exact ⟨k,List.mem_range.2 hk,by rw [h];decide⟩
def bF (n:Int):RationalD:=⟨n,1⟩
def zR:RationalD:=⟨0,0⟩
def aMg (n:Int) (x s:RationalD):RationalD × Bool:=((eH s (dQ (bF n) x).1).1,(dQ (bF n) x).2&&(eH s (dQ (bF n) x).1).2)
def iH:List Int→List RationalD→RationalD→RationalD × Bool
 | n::l,x::xs,s=>if (aMg n x s).2=true then iH l xs (aMg n x s).1 else (zR,false)
 | _,_,s=>(s,true)
theorem aNa {l:List Int} {xs:List RationalD} {k:Nat} {n:Int} {x s:RationalD} (hl:l[k]? =some n) (hx:xs[k]? =some x):iH (l.drop k) (xs.drop k) s=if (aMg n x s).2=true then iH (l.drop (k+1)) (xs.drop (k+1)) (aMg n x s).1 else (zR,false):=by
 obtain ⟨h1,rfl⟩:=List.getElem?_eq_some_iff.1 hl
 obtain ⟨h2,rfl⟩:=List.getElem?_eq_some_iff.1 hx
 rw [List.drop_eq_getElem_cons h1,List.drop_eq_getElem_cons h2,iH]
theorem aL7 {l:List Int} {xs:List RationalD} {k:Nat} {n:Int} {x s:RationalD} (hl:l[k]? =some n) (hx:xs[k]? =some x) (h1:(dQ (bF n) x).2=true) (h2:(eH s (dQ (bF n) x).1).2=true):iH (l.drop k) (xs.drop k) s=iH (l.drop (k+1)) (xs.drop (k+1)) (eH s (dQ (bF n) x).1).1:=by
 rw [aNa hl hx,if_pos (by rw [aMg,h1,h2];rfl)];rfl
theorem cY {l:List Int} {xs:List RationalD} {k:Nat} {n:Int} {x s:RationalD} (hl:l[k]? =some n) (hx:xs[k]? =some x) (h:(dQ (bF n) x).2=false∨(eH s (dQ (bF n) x).1).2=false):iH (l.drop k) (xs.drop k) s=(zR,false):=by
 rw [aNa hl hx,if_neg]
 rcases h with h | h
 ·rw [aMg,h];simp
 ·rw [aMg,h];simp
theorem eP {l:List Int} {xs:List RationalD} {k:Nat} {s:RationalD} (h:l.length≤k∨xs.length≤k):iH (l.drop k) (xs.drop k) s=(s,true):=by
 rcases h with h | h
 ·rw [List.drop_eq_nil_of_le h];simp [iH]
 ·rw [List.drop_eq_nil_of_le h]
  cases l.drop k<;>simp [iH]
def iF (l:List Int) (xs:List RationalD):RationalD × Bool:=if l.length=xs.length then iH l xs (bF 0) else (zR,false)
theorem bZ {l:List Int} {xs:List RationalD} (h:l.length=xs.length):iF l xs=iH l xs (bF 0):=by rw [iF,if_pos h]
theorem gE {l:List Int} {xs:List RationalD} (h: ¬l.length=xs.length):iF l xs=(zR,false):=by rw [iF,if_neg h]
def lA (p:cM) (ys:List RationalD):RationalD × Bool:=if dD p=true then iF p.limits ys else (zR,false)
theorem fG {p:cM} {ys:List RationalD} (h:dD p=true):lA p ys=iF p.limits ys:=by rw [lA,if_pos h]
theorem lB {p:cM} {ys:List RationalD} (h:dD p=false):lA p ys=(zR,false):=by rw [lA,if_neg (by rw [h];decide)]
def tG (r:RationalD):Bool:=bI r&& !decide (r.num<0)
def kR (l:List RationalD) (n:Int):Bool:=decide ((l.length:Int)=n)&&l.all tG
theorem qS (l:List RationalD) (n:Int):kR l n=((decide ((l.length:Int)=n)&&l.all bI)&&l.all fun r=> !decide (r.num<0)):=by
 have:l.all tG=(l.all bI&&l.all fun r=> !decide (r.num<0)):=by
  induction l with
  | nil=>rfl
  | cons a l ih=>simp only [List.all_cons,ih,tG];cases bI a<;>cases (!decide (a.num<0))<;>cases l.all bI<;>simp
 rw [kR,this,Bool.and_assoc]
def uC (rs:List (List Int)) (k:Nat):List Int:=rs.map fun r=>r.getD k 0
theorem aJA {rs:List (List Int)} {i k:Nat} {r:List Int} {v:Int} (hr:rs[i]? =some r) (hv:r[k]? =some v):uC (rs.take (i+1)) k=uC (rs.take i) k++[v]:=by
 rw [bO hr];simp [uC,hv]
def gR (p:cM) (ys:List RationalD) (k:Nat):Bool:=(iF (uC p.rows k) ys).2&&decide (0≤dM (iF (uC p.rows k) ys).1 (bF (p.objective.getD k 0)))
def eQ (p:cM) (ys:List RationalD):Bool:=dD p&&(kR ys p.rows.length&&(List.range p.objective.length).all (gR p ys))
theorem aHC (m:Int) (l:List Int): ∀k,∃p,kN m l k=m4 p
 | 0=>⟨fun _=>false,by simp [kN,m4,b4]⟩
 | k+1=>by
   obtain ⟨p,hp⟩:=aHC m l k
   rw [kN]
   split
   ·rename_i h
    exact ⟨_,by rw [hp,aQz h.1.1]⟩
   ·exact ⟨p,hp⟩
theorem aEU (m:Int) (l:List Int):0≤gQ m l∧gQ m l≤15:=by
 obtain ⟨p,hp⟩:=aHC m l l.length
 rw [gQ,hp]
 exact aQy p
theorem aEV: ∀(f b:Nat) (n:Int),0≤kQ f b n∧kQ f b n≤((b+f:Nat):Int)
 | 0,b,_=>by rw [kQ];omega
 | f+1,b,n=>by
   have:=aEV f (b+1) n
   rw [kQ]
   split<;>omega
theorem aMh (n:Int): -1≤nN n∧nN n≤12:=by
 have:=aEV 12 0 n
 unfold nN
 split<;>omega
theorem aMi {s:StoreD} {q:QueryD} {m:Int} {x:aD} (h:x∈dI s q m): -1≤x.bits∧x.bits≤12:=by
 unfold dI at h
 split at h
 ·rw [qcL,List.mem_flatMap] at h
  obtain ⟨y,_,h⟩:=h
  rw [qcA] at h
  unfold lO at h
  split at h
  ·obtain ⟨z,_,rfl⟩:=List.mem_map.1 h
   exact aMh _
  ·simp at h
 ·simp at h
theorem aL8 {s:StoreD} {q:QueryD} {m:Int} (v:List Int):oR ((dI s q m).map (mQ v)):=by
 intro x hx
 obtain ⟨y,hy,rfl⟩:=List.mem_map.1 hx
 have h1:=aEU y.src v
 have h2:=aEU y.dst v
 have h3:=aMi hy
 refine ⟨⟨?_,?_⟩,⟨?_,?_⟩,⟨?_,?_⟩⟩<;>(simp only [mQ];omega)
def fO (s:StoreD) (q:QueryD) (m:Int):cM × Bool:=if (dI s q m).length=0 then (nW,false) else eI ((dI s q m).map (mQ (eT q m))) ((eT q m).length:Nat)
theorem kC {s:StoreD} {q:QueryD} {m:Int} (h:(dI s q m).length=0):fO s q m=(nW,false):=by rw [fO,if_pos h]
theorem iN {s:StoreD} {q:QueryD} {m:Int} (h: ¬(dI s q m).length=0):fO s q m=eI ((dI s q m).map (mQ (eT q m))) ((eT q m).length:Nat):=by rw [fO,if_neg h]
theorem aMj (s:StoreD) (q:QueryD) (m:Int):xT (fO s q m).1≤2000:=by
 unfold fO
 split
 ·decide
 ·exact aMf _ _
def gZ (s:StoreD) (q:QueryD) (m:Int) (b:RationalD) (ws:List RationalD):Bool:=(fO s q m).2&&(bI b&&(eQ (fO s q m).1 ws&&((lA (fO s q m).1 ws).2&&decide (dM (lA (fO s q m).1 ws).1 b≤0))))
abbrev aB2 (l:List aD) (n:Int):AV × List (Nat × Rs):=(.tup [.agg [.own 0,.own 1,.own 2],vB ((eI l n).2)],[(0,.arr 3 1 true ((((eI l n).1).objective).map intD)),(1,.arr 39 1 true ((((eI l n).1).rows).map aA)),(2,.arr 3 1 true ((((eI l n).1).limits).map intD))])
abbrev aHD (l:List aD) (n:Int):Prop:=cT Tryz.prog 80 [.one (.sl 164 3 (l.map aC)),.one (.int .i64 n)] (aB2 l n).1 (aB2 l n).2
theorem aRb (l:List aD) (n:Int) (hl:l.length≤1048576) (hf:oR l):aHD l n:=by
 refine aT bE aL Tryz.func80 (by kernel_rfl) (.call (vB (decide ((1:Int)≤n∧n≤(4:Int)))) []<| .br (.fin []) (.mk ((((1:Int)*2^(Int.toNat n)) - (1:Int)).toNat) [.int .i64 (0:Int)] ((List.replicate ((((1:Int)*2^(Int.toNat n)) - (1:Int)).toNat) (0:Int)).map intD)<| .call (.own 0) [(0,.arr 39 1 true ((dX n).map aA))]<| .len ((List.replicate ((((1:Int)*2^(Int.toNat n)) - (1:Int)).toNat) (0:Int)).length)<| .set Int intD (List.replicate ((((1:Int)*2^(Int.toNat n)) - (1:Int)).toNat) (0:Int)) (fun s5_5=>(1:Int)) (fun s5_5=> .len ((dX n).length)<| .mk ((dX n).length) [.int .i64 (0:Int)] ((List.replicate ((dX n).length) (0:Int)).map intD)<| .len l.length<| .loop (Nat × (List (List Int)) × (List Int)) (Q3 Nat (List (List Int)) (List Int)) [9,10,21,22,29,31,35,36,37,38,39,40,41,42,43,44,45,46,47,48,49,50,51,52,53,54,55,56,57,58,59,60,61,62,63,64,65,67,68,69,70,71,72,73,74,75,76,77,78,79,80,81,82,83,84,85,86,87,88,89,90,91,92,93,94,95] [700,900,2100,3100,6800,8500,8600,9200,9300] (fun yy0=>[(35,vI (yy0.1:Int))]) (fun yy0=>[(700,some (.box 80 [.own 1900,.own 2100,.own 3100])),(2100,some (.arr 39 1 true (yy0.2.1.map aA))),(3100,some (.arr 3 1 true (yy0.2.2.map intD)))]) (fun yy0=>yy0.1≤l.length∧yy0.2.1=dX n++(l.take yy0.1).map (oE n)∧yy0.2.2=List.replicate (dX n).length 0++(l.take yy0.1).map (·.bits)∧(l.take yy0.1).all (okC n)=true) (fun yy0=>l.length - yy0.1) (fun yy0=> .br (.elem _ aC l (fun e37=> .call (vB (decide ((1:Int)≤e37.dst∧e37.dst≤(((1:Int)*2^(Int.toNat n)) - (1:Int))))) []<| .br (.fin []) (.lit<| .lit<| .lit<| .br (.fin []) (.lit<| .lit<| .lit<| .lit<| .lit<| .lit<| .lit<| .lit<| .br (.fin []) (.lit<| .lit<| .lit<| .lit<| .lit<| .br (.fin []) (.mk ((((1:Int)*2^(Int.toNat n)) - (1:Int)).toNat) [.int .i64 (0:Int)] ((List.replicate ((((1:Int)*2^(Int.toNat n)) - (1:Int)).toNat) (0:Int)).map intD)<| .len ((List.replicate ((((1:Int)*2^(Int.toNat n)) - (1:Int)).toNat) (0:Int)).length)<| .set Int intD (List.replicate ((((1:Int)*2^(Int.toNat n)) - (1:Int)).toNat) (0:Int)) (fun s13_5=>(1:Int)) (fun s13_5=> .br (.len (((List.replicate ((((1:Int)*2^(Int.toNat n)) - (1:Int)).toNat) (0:Int)).set ((e37.dst - (1:Int)).toNat) (1:Int)).length)<| .set Int intD ((List.replicate ((((1:Int)*2^(Int.toNat n)) - (1:Int)).toNat) (0:Int)).set ((e37.dst - (1:Int)).toNat) (1:Int)) (fun s15_5=>(-1:Int)) (fun s15_5=> .appx (List Int) aA yy0.2.1 (((List.replicate ((((1:Int)*2^(Int.toNat n)) - (1:Int)).toNat) (0:Int)).set ((e37.dst - (1:Int)).toNat) (1:Int)).set ((e37.src - (1:Int)).toNat) (-1:Int))<| .app Int intD yy0.2.2 ([e37.bits]:List Int)<| .back [(700,700),(2100,8600),(3100,9300)])) (.appx (List Int) aA yy0.2.1 ((List.replicate ((((1:Int)*2^(Int.toNat n)) - (1:Int)).toNat) (0:Int)).set ((e37.dst - (1:Int)).toNat) (1:Int))<| .app Int intD yy0.2.2 ([e37.bits]:List Int)<| .back [(700,700),(2100,8600),(3100,9300)])))))))) (.call (vB (dD (⟨(List.replicate ((((1:Int)*2^(Int.toNat n)) - (1:Int)).toNat) (0:Int)).set (((((1:Int)*2^(Int.toNat n)) - (1:Int)) - (1:Int)).toNat) (1:Int),yy0.2.1,yy0.2.2⟩:cM))) []<| .br (.fin []) (.fin [(0,1900),(1,2100),(2,3100)])))))) (p:=(l.map aC).length≤9223372036854775807→kI n (1:Int) (4:Int)∧(((!(decide ((1:Int)≤n∧n≤(4:Int))))=true→(false)=((eI l n).2)∧[]=(((eI l n).1).objective).map intD∧[]=(((eI l n).1).rows).map aA∧[]=(((eI l n).1).limits).map intD∧True)∧((!(decide ((1:Int)≤n∧n≤(4:Int))))=false→(0≤n∧n≤64)∧(cC ((1:Int)*2^(Int.toNat n))∧(cC (((1:Int)*2^(Int.toNat n)) - (1:Int))∧((((1:Int)*2^(Int.toNat n)) - (1:Int))=(((((1:Int)*2^(Int.toNat n)) - (1:Int)).toNat:Nat):Int)∧(((1:Int)*2^(Int.toNat n)) - (1:Int))=(((((1:Int)*2^(Int.toNat n)) - (1:Int)).toNat:Nat):Int)∧8*((((1:Int)*2^(Int.toNat n)) - (1:Int)).toNat)≤281474976710656∧((((1:Int)*2^(Int.toNat n)) - (1:Int)).toNat)≤9223372036854775807∧List.replicate ((((1:Int)*2^(Int.toNat n)) - (1:Int)).toNat) [.int .i64 (0:Int)]=(List.replicate ((((1:Int)*2^(Int.toNat n)) - (1:Int)).toNat) (0:Int)).map intD∧(cT Tryz.prog 120 [.one (.int .i64 n)] (.own 0) [(0,.arr 39 1 true ((dX n).map aA))]∧(cC ((((1:Int)*2^(Int.toNat n)) - (1:Int)) - (1:Int))∧(0≤((((1:Int)*2^(Int.toNat n)) - (1:Int)) - (1:Int))∧Lm intD (List.replicate ((((1:Int)*2^(Int.toNat n)) - (1:Int)).toNat) (0:Int))∧((((1:Int)*2^(Int.toNat n)) - (1:Int)) - (1:Int))<(((List.replicate ((((1:Int)*2^(Int.toNat n)) - (1:Int)).toNat) (0:Int)).length:Nat):Int)∧((List.replicate ((((1:Int)*2^(Int.toNat n)) - (1:Int)).toNat) (0:Int)).map intD=(List.replicate ((((1:Int)*2^(Int.toNat n)) - (1:Int)).toNat) (0:Int)).map intD∧((((1:Int)*2^(Int.toNat n)) - (1:Int)) - (1:Int)).toNat<(List.replicate ((((1:Int)*2^(Int.toNat n)) - (1:Int)).toNat) (0:Int)).length∧ ∀s5_5,(List.replicate ((((1:Int)*2^(Int.toNat n)) - (1:Int)).toNat) (0:Int))[((((1:Int)*2^(Int.toNat n)) - (1:Int)) - (1:Int)).toNat]? =some s5_5→eL (intD s5_5)=true∧0+1≤(intD s5_5).length∧(intD s5_5).take 0++[.int .i64 (1:Int)]++(intD s5_5).drop (0+1)=intD (1:Int)∧(Lm aA (dX n)∧((((dX n).length:Nat):Int)=(((dX n).length:Nat):Int)∧(((dX n).length:Nat):Int)=(((dX n).length:Nat):Int)∧8*((dX n).length)≤281474976710656∧((dX n).length)≤9223372036854775807∧List.replicate ((dX n).length) [.int .i64 (0:Int)]=(List.replicate ((dX n).length) (0:Int)).map intD∧(Lm aC l∧((∃(k:Nat) (R:List (List Int)) (M:List Int),(0:Int)=(k:Int)∧(dX n).map aA=R.map aA∧(List.replicate ((dX n).length) (0:Int)).map intD=M.map intD∧k≤l.length∧R=dX n++(l.take k).map (oE n)∧M=List.replicate (dX n).length 0++(l.take k).map (·.bits)∧(l.take k).all (okC n)=true)∧ ∀(k:Nat) (R:List (List Int)) (M:List Int),(k≤l.length∧R=dX n++(l.take k).map (oE n)∧M=List.replicate (dX n).length 0++(l.take k).map (·.bits)∧(l.take k).all (okC n)=true)→((decide ((k:Int)<((l.length:Nat):Int)))=true→0≤(k:Int)∧Em aC l k fun e37=>kI e37.dst (1:Int) (((1:Int)*2^(Int.toNat n)) - (1:Int))∧(((!(decide ((1:Int)≤e37.dst∧e37.dst≤(((1:Int)*2^(Int.toNat n)) - (1:Int)))))=true→(false)=((eI l n).2)∧[]=(((eI l n).1).objective).map intD∧[]=(((eI l n).1).rows).map aA∧[]=(((eI l n).1).limits).map intD∧True)∧((!(decide ((1:Int)≤e37.dst∧e37.dst≤(((1:Int)*2^(Int.toNat n)) - (1:Int)))))=false→((decide (e37.src<(0:Int)))=true→(false)=((eI l n).2)∧[]=(((eI l n).1).objective).map intD∧[]=(((eI l n).1).rows).map aA∧[]=(((eI l n).1).limits).map intD∧True)∧((decide (e37.src<(0:Int)))=false→((!(decide ((cF .and .i64 e37.src e37.dst)=e37.src)))=true→(false)=((eI l n).2)∧[]=(((eI l n).1).objective).map intD∧[]=(((eI l n).1).rows).map aA∧[]=(((eI l n).1).limits).map intD∧True)∧((!(decide ((cF .and .i64 e37.src e37.dst)=e37.src)))=false→((decide (e37.src=e37.dst))=true→(false)=((eI l n).2)∧[]=(((eI l n).1).objective).map intD∧[]=(((eI l n).1).rows).map aA∧[]=(((eI l n).1).limits).map intD∧True)∧((decide (e37.src=e37.dst))=false→(((1:Int)*2^(Int.toNat n)) - (1:Int))=(((((1:Int)*2^(Int.toNat n)) - (1:Int)).toNat:Nat):Int)∧(((1:Int)*2^(Int.toNat n)) - (1:Int))=(((((1:Int)*2^(Int.toNat n)) - (1:Int)).toNat:Nat):Int)∧8*((((1:Int)*2^(Int.toNat n)) - (1:Int)).toNat)≤281474976710656∧((((1:Int)*2^(Int.toNat n)) - (1:Int)).toNat)≤9223372036854775807∧List.replicate ((((1:Int)*2^(Int.toNat n)) - (1:Int)).toNat) [.int .i64 (0:Int)]=(List.replicate ((((1:Int)*2^(Int.toNat n)) - (1:Int)).toNat) (0:Int)).map intD∧(cC (e37.dst - (1:Int))∧(0≤(e37.dst - (1:Int))∧Lm intD (List.replicate ((((1:Int)*2^(Int.toNat n)) - (1:Int)).toNat) (0:Int))∧(e37.dst - (1:Int))<(((List.replicate ((((1:Int)*2^(Int.toNat n)) - (1:Int)).toNat) (0:Int)).length:Nat):Int)∧((List.replicate ((((1:Int)*2^(Int.toNat n)) - (1:Int)).toNat) (0:Int)).map intD=(List.replicate ((((1:Int)*2^(Int.toNat n)) - (1:Int)).toNat) (0:Int)).map intD∧(e37.dst - (1:Int)).toNat<(List.replicate ((((1:Int)*2^(Int.toNat n)) - (1:Int)).toNat) (0:Int)).length∧ ∀s13_5,(List.replicate ((((1:Int)*2^(Int.toNat n)) - (1:Int)).toNat) (0:Int))[(e37.dst - (1:Int)).toNat]? =some s13_5→eL (intD s13_5)=true∧0+1≤(intD s13_5).length∧(intD s13_5).take 0++[.int .i64 (1:Int)]++(intD s13_5).drop (0+1)=intD (1:Int)∧(((decide ((0:Int)<e37.src))=true→cC (e37.src - (1:Int))∧(0≤(e37.src - (1:Int))∧Lm intD ((List.replicate ((((1:Int)*2^(Int.toNat n)) - (1:Int)).toNat) (0:Int)).set ((e37.dst - (1:Int)).toNat) (1:Int))∧(e37.src - (1:Int))<((((List.replicate ((((1:Int)*2^(Int.toNat n)) - (1:Int)).toNat) (0:Int)).set ((e37.dst - (1:Int)).toNat) (1:Int)).length:Nat):Int)∧(((List.replicate ((((1:Int)*2^(Int.toNat n)) - (1:Int)).toNat) (0:Int)).set ((e37.dst - (1:Int)).toNat) (1:Int)).map intD=((List.replicate ((((1:Int)*2^(Int.toNat n)) - (1:Int)).toNat) (0:Int)).set ((e37.dst - (1:Int)).toNat) (1:Int)).map intD∧(e37.src - (1:Int)).toNat<((List.replicate ((((1:Int)*2^(Int.toNat n)) - (1:Int)).toNat) (0:Int)).set ((e37.dst - (1:Int)).toNat) (1:Int)).length∧ ∀s15_5,((List.replicate ((((1:Int)*2^(Int.toNat n)) - (1:Int)).toNat) (0:Int)).set ((e37.dst - (1:Int)).toNat) (1:Int))[(e37.src - (1:Int)).toNat]? =some s15_5→eL (intD s15_5)=true∧0+1≤(intD s15_5).length∧(intD s15_5).take 0++[.int .i64 (-1:Int)]++(intD s15_5).drop (0+1)=intD (-1:Int)∧R.map aA=R.map aA∧(((List.replicate ((((1:Int)*2^(Int.toNat n)) - (1:Int)).toNat) (0:Int)).set ((e37.dst - (1:Int)).toNat) (1:Int)).set ((e37.src - (1:Int)).toNat) (-1:Int)).map intD=(((List.replicate ((((1:Int)*2^(Int.toNat n)) - (1:Int)).toNat) (0:Int)).set ((e37.dst - (1:Int)).toNat) (1:Int)).set ((e37.src - (1:Int)).toNat) (-1:Int)).map intD∧(R.length+1)*24≤140737488355328∧M.map intD=M.map intD∧[[.int .i64 e37.bits]]=([e37.bits]:List Int).map intD∧(∀x,eL (intD x)=true)∧(M.length+([e37.bits]:List Int).length)*8≤140737488355328∧cC ((k:Int)+(1:Int))∧ ∃(k' :Nat) (R' :List (List Int)) (M' :List Int),((k:Int)+(1:Int))=(k' :Int)∧(R++[((List.replicate ((((1:Int)*2^(Int.toNat n)) - (1:Int)).toNat) (0:Int)).set ((e37.dst - (1:Int)).toNat) (1:Int)).set ((e37.src - (1:Int)).toNat) (-1:Int)]).map aA=R'.map aA∧(M++[e37.bits]).map intD=M'.map intD∧(k' ≤l.length∧R' =dX n++(l.take k').map (oE n)∧M' =List.replicate (dX n).length 0++(l.take k').map (·.bits)∧(l.take k').all (okC n)=true)∧l.length - k' <l.length - k)))∧((decide ((0:Int)<e37.src))=false→R.map aA=R.map aA∧((List.replicate ((((1:Int)*2^(Int.toNat n)) - (1:Int)).toNat) (0:Int)).set ((e37.dst - (1:Int)).toNat) (1:Int)).map intD=((List.replicate ((((1:Int)*2^(Int.toNat n)) - (1:Int)).toNat) (0:Int)).set ((e37.dst - (1:Int)).toNat) (1:Int)).map intD∧(R.length+1)*24≤140737488355328∧M.map intD=M.map intD∧[[.int .i64 e37.bits]]=([e37.bits]:List Int).map intD∧(∀x,eL (intD x)=true)∧(M.length+([e37.bits]:List Int).length)*8≤140737488355328∧cC ((k:Int)+(1:Int))∧ ∃(k' :Nat) (R' :List (List Int)) (M' :List Int),((k:Int)+(1:Int))=(k' :Int)∧(R++[(List.replicate ((((1:Int)*2^(Int.toNat n)) - (1:Int)).toNat) (0:Int)).set ((e37.dst - (1:Int)).toNat) (1:Int)]).map aA=R'.map aA∧(M++[e37.bits]).map intD=M'.map intD∧(k' ≤l.length∧R' =dX n++(l.take k').map (oE n)∧M' =List.replicate (dX n).length 0++(l.take k').map (·.bits)∧(l.take k').all (okC n)=true)∧l.length - k' <l.length - k)))))))))))∧((decide ((k:Int)<((l.length:Nat):Int)))=false→sW (⟨(List.replicate ((((1:Int)*2^(Int.toNat n)) - (1:Int)).toNat) (0:Int)).set (((((1:Int)*2^(Int.toNat n)) - (1:Int)) - (1:Int)).toNat) (1:Int),R,M⟩:cM)∧(((!(dD (⟨(List.replicate ((((1:Int)*2^(Int.toNat n)) - (1:Int)).toNat) (0:Int)).set (((((1:Int)*2^(Int.toNat n)) - (1:Int)) - (1:Int)).toNat) (1:Int),R,M⟩:cM)))=true→(false)=((eI l n).2)∧[]=(((eI l n).1).objective).map intD∧[]=(((eI l n).1).rows).map aA∧[]=(((eI l n).1).limits).map intD∧True)∧((!(dD (⟨(List.replicate ((((1:Int)*2^(Int.toNat n)) - (1:Int)).toNat) (0:Int)).set (((((1:Int)*2^(Int.toNat n)) - (1:Int)) - (1:Int)).toNat) (1:Int),R,M⟩:cM)))=false→(true)=((eI l n).2)∧((List.replicate ((((1:Int)*2^(Int.toNat n)) - (1:Int)).toNat) (0:Int)).set (((((1:Int)*2^(Int.toNat n)) - (1:Int)) - (1:Int)).toNat) (1:Int)).map intD=(((eI l n).1).objective).map intD∧R.map aA=(((eI l n).1).rows).map aA∧M.map intD=(((eI l n).1).limits).map intD∧True))))))))))))))))) (by kernel_rfl) ?_
 intro n0
 simp only [List.length_map] at n0
 refine ⟨oD _ _ _,fun c0=>?_,fun c0=>?_⟩
 ·replace c0:=nq (nt c0)
  refine ⟨?_,?_,?_,?_,trivial⟩
  ·first | (rw [dA (by omega)]<;>rfl) | (rw [dB hk2 hbad]<;>rfl) | (rw [bG (by omega)]<;>rfl) | (rw [hfin]<;>rfl) | (rw [hfin,cB,hR]<;>rfl) | (rw [hfin,cB,hM]<;>rfl) | (rw [hfin,cB,fA (by omega)]<;>rfl)
  ·first | (rw [dA (by omega)]<;>rfl) | (rw [dB hk2 hbad]<;>rfl) | (rw [bG (by omega)]<;>rfl) | (rw [hfin]<;>rfl) | (rw [hfin,cB,hR]<;>rfl) | (rw [hfin,cB,hM]<;>rfl) | (rw [hfin,cB,fA (by omega)]<;>rfl)
  ·first | (rw [dA (by omega)]<;>rfl) | (rw [dB hk2 hbad]<;>rfl) | (rw [bG (by omega)]<;>rfl) | (rw [hfin]<;>rfl) | (rw [hfin,cB,hR]<;>rfl) | (rw [hfin,cB,hM]<;>rfl) | (rw [hfin,cB,fA (by omega)]<;>rfl)
  ·first | (rw [dA (by omega)]<;>rfl) | (rw [dB hk2 hbad]<;>rfl) | (rw [bG (by omega)]<;>rfl) | (rw [hfin]<;>rfl) | (rw [hfin,cB,hR]<;>rfl) | (rw [hfin,cB,hM]<;>rfl) | (rw [hfin,cB,fA (by omega)]<;>rfl)
 ·replace c0:=yq (nf c0)
  obtain ⟨b1,b2,b3⟩:=aAU (n:=n) (by omega)
  have hal:eA n=(1:Int)*2^n.toNat - 1:=rfl
  have hel:=aIz n
  refine ⟨⟨by omega,by omega⟩,by first | exact bK (by omega) | exact ⟨by omega,by omega⟩,by first | exact bK (by omega) | exact ⟨by omega,by omega⟩,by omega,by omega,by first | omega | (simp [hR,hM];omega) | (simp;omega),by first | omega | (simp [hR,hM];omega) | (simp;omega),by first | (rw [List.map_replicate];done) | (rw [List.map_replicate];rfl),by rw [←aJk];exact aPE _,by first | exact bK (by omega) | exact ⟨by omega,by omega⟩,by omega,List.length_map _,by first | omega | (simp;omega),rfl,by first | omega | (simp;omega),fun s5_5 hs5_5=>⟨rfl,Nat.le_of_ble_eq_true rfl,rfl,?_⟩⟩
  refine ⟨List.length_map _,rfl,rfl,by first | omega | (simp [hR,hM];omega) | (simp;omega),by first | omega | (simp [hR,hM];omega) | (simp;omega),by first | (rw [List.map_replicate];done) | (rw [List.map_replicate];rfl),List.length_map _,⟨0,dX n,List.replicate ((dX n).length) (0:Int),rfl,rfl,rfl,Nat.zero_le _,by simp,by simp,rfl⟩,fun k R M ⟨hk,hR,hM,ha⟩=>?_⟩
  refine ⟨fun c1=>?_,fun c1=>?_⟩
  ·replace c1:=yq c1
   refine ⟨by omega,rfl,by first | omega | (simp;omega),fun e37 h37=>?_⟩
   have hk2:=h37
   have hfc:=hf _ (List.mem_of_getElem? h37)
   have hfs:e37.src≤9223372036854775807:=hfc.1.2
   have hfd:e37.dst≤9223372036854775807:=hfc.2.1.2
   refine ⟨oD _ _ _,fun g44=>?_,fun g44=>?_⟩
   ·replace g44:=nq (nt g44)
    have hbad:okC n e37=false:=vR (by rintro ⟨q1,q2,q3,q4⟩;omega)
    refine ⟨?_,?_,?_,?_,trivial⟩
    ·first | (rw [dA (by omega)]<;>rfl) | (rw [dB hk2 hbad]<;>rfl) | (rw [bG (by omega)]<;>rfl) | (rw [hfin]<;>rfl) | (rw [hfin,cB,hR]<;>rfl) | (rw [hfin,cB,hM]<;>rfl) | (rw [hfin,cB,fA (by omega)]<;>rfl)
    ·first | (rw [dA (by omega)]<;>rfl) | (rw [dB hk2 hbad]<;>rfl) | (rw [bG (by omega)]<;>rfl) | (rw [hfin]<;>rfl) | (rw [hfin,cB,hR]<;>rfl) | (rw [hfin,cB,hM]<;>rfl) | (rw [hfin,cB,fA (by omega)]<;>rfl)
    ·first | (rw [dA (by omega)]<;>rfl) | (rw [dB hk2 hbad]<;>rfl) | (rw [bG (by omega)]<;>rfl) | (rw [hfin]<;>rfl) | (rw [hfin,cB,hR]<;>rfl) | (rw [hfin,cB,hM]<;>rfl) | (rw [hfin,cB,fA (by omega)]<;>rfl)
    ·first | (rw [dA (by omega)]<;>rfl) | (rw [dB hk2 hbad]<;>rfl) | (rw [bG (by omega)]<;>rfl) | (rw [hfin]<;>rfl) | (rw [hfin,cB,hR]<;>rfl) | (rw [hfin,cB,hM]<;>rfl) | (rw [hfin,cB,fA (by omega)]<;>rfl)
   ·replace g44:=yq (nf g44)
    refine ⟨fun g49=>?_,fun g49=>?_⟩
    ·replace g49:=yq g49
     have hbad:okC n e37=false:=vR (by rintro ⟨q1,q2,q3,q4⟩;omega)
     refine ⟨?_,?_,?_,?_,trivial⟩
     ·first | (rw [dA (by omega)]<;>rfl) | (rw [dB hk2 hbad]<;>rfl) | (rw [bG (by omega)]<;>rfl) | (rw [hfin]<;>rfl) | (rw [hfin,cB,hR]<;>rfl) | (rw [hfin,cB,hM]<;>rfl) | (rw [hfin,cB,fA (by omega)]<;>rfl)
     ·first | (rw [dA (by omega)]<;>rfl) | (rw [dB hk2 hbad]<;>rfl) | (rw [bG (by omega)]<;>rfl) | (rw [hfin]<;>rfl) | (rw [hfin,cB,hR]<;>rfl) | (rw [hfin,cB,hM]<;>rfl) | (rw [hfin,cB,fA (by omega)]<;>rfl)
     ·first | (rw [dA (by omega)]<;>rfl) | (rw [dB hk2 hbad]<;>rfl) | (rw [bG (by omega)]<;>rfl) | (rw [hfin]<;>rfl) | (rw [hfin,cB,hR]<;>rfl) | (rw [hfin,cB,hM]<;>rfl) | (rw [hfin,cB,fA (by omega)]<;>rfl)
     ·first | (rw [dA (by omega)]<;>rfl) | (rw [dB hk2 hbad]<;>rfl) | (rw [bG (by omega)]<;>rfl) | (rw [hfin]<;>rfl) | (rw [hfin,cB,hR]<;>rfl) | (rw [hfin,cB,hM]<;>rfl) | (rw [hfin,cB,fA (by omega)]<;>rfl)
    ·replace g49:=nq g49
     refine ⟨fun g59=>?_,fun g59=>?_⟩
     ·replace g59:=nq (nt g59)
      have hbad:okC n e37=false:=vR (by rintro ⟨q1,q2,q3,q4⟩;omega)
      refine ⟨?_,?_,?_,?_,trivial⟩
      ·first | (rw [dA (by omega)]<;>rfl) | (rw [dB hk2 hbad]<;>rfl) | (rw [bG (by omega)]<;>rfl) | (rw [hfin]<;>rfl) | (rw [hfin,cB,hR]<;>rfl) | (rw [hfin,cB,hM]<;>rfl) | (rw [hfin,cB,fA (by omega)]<;>rfl)
      ·first | (rw [dA (by omega)]<;>rfl) | (rw [dB hk2 hbad]<;>rfl) | (rw [bG (by omega)]<;>rfl) | (rw [hfin]<;>rfl) | (rw [hfin,cB,hR]<;>rfl) | (rw [hfin,cB,hM]<;>rfl) | (rw [hfin,cB,fA (by omega)]<;>rfl)
      ·first | (rw [dA (by omega)]<;>rfl) | (rw [dB hk2 hbad]<;>rfl) | (rw [bG (by omega)]<;>rfl) | (rw [hfin]<;>rfl) | (rw [hfin,cB,hR]<;>rfl) | (rw [hfin,cB,hM]<;>rfl) | (rw [hfin,cB,fA (by omega)]<;>rfl)
      ·first | (rw [dA (by omega)]<;>rfl) | (rw [dB hk2 hbad]<;>rfl) | (rw [bG (by omega)]<;>rfl) | (rw [hfin]<;>rfl) | (rw [hfin,cB,hR]<;>rfl) | (rw [hfin,cB,hM]<;>rfl) | (rw [hfin,cB,fA (by omega)]<;>rfl)
     ·replace g59:=yq (nf g59)
      refine ⟨fun c2=>?_,fun c2=>?_⟩
      ·replace c2:=yq c2
       have hbad:okC n e37=false:=vR (by rintro ⟨q1,q2,q3,q4⟩;omega)
       refine ⟨?_,?_,?_,?_,trivial⟩
       ·first | (rw [dA (by omega)]<;>rfl) | (rw [dB hk2 hbad]<;>rfl) | (rw [bG (by omega)]<;>rfl) | (rw [hfin]<;>rfl) | (rw [hfin,cB,hR]<;>rfl) | (rw [hfin,cB,hM]<;>rfl) | (rw [hfin,cB,fA (by omega)]<;>rfl)
       ·first | (rw [dA (by omega)]<;>rfl) | (rw [dB hk2 hbad]<;>rfl) | (rw [bG (by omega)]<;>rfl) | (rw [hfin]<;>rfl) | (rw [hfin,cB,hR]<;>rfl) | (rw [hfin,cB,hM]<;>rfl) | (rw [hfin,cB,fA (by omega)]<;>rfl)
       ·first | (rw [dA (by omega)]<;>rfl) | (rw [dB hk2 hbad]<;>rfl) | (rw [bG (by omega)]<;>rfl) | (rw [hfin]<;>rfl) | (rw [hfin,cB,hR]<;>rfl) | (rw [hfin,cB,hM]<;>rfl) | (rw [hfin,cB,fA (by omega)]<;>rfl)
       ·first | (rw [dA (by omega)]<;>rfl) | (rw [dB hk2 hbad]<;>rfl) | (rw [bG (by omega)]<;>rfl) | (rw [hfin]<;>rfl) | (rw [hfin,cB,hR]<;>rfl) | (rw [hfin,cB,hM]<;>rfl) | (rw [hfin,cB,fA (by omega)]<;>rfl)
      ·replace c2:=nq c2
       have hle:=aBV (a:=e37.src) (c:=e37.dst) (by omega) (by omega) (by omega) (by omega)
       refine ⟨by omega,by omega,by first | omega | (simp [hR,hM];omega) | (simp;omega),by first | omega | (simp [hR,hM];omega) | (simp;omega),by first | (rw [List.map_replicate];done) | (rw [List.map_replicate];rfl),by first | exact bK (by omega) | exact ⟨by omega,by omega⟩,by omega,List.length_map _,by first | omega | (simp;omega),rfl,by first | omega | (simp;omega),fun s13_5 hs13_5=>⟨rfl,Nat.le_of_ble_eq_true rfl,rfl,?_⟩⟩
       refine ⟨fun c3=>?_,fun c3=>?_⟩
       ·replace c3:=yq c3
        refine ⟨by first | exact bK (by omega) | exact ⟨by omega,by omega⟩,by omega,List.length_map _,by first | omega | (simp;omega),rfl,by first | omega | (simp;omega),fun s15_5 hs15_5=>⟨rfl,Nat.le_of_ble_eq_true rfl,rfl,?_⟩⟩
        refine ⟨rfl,rfl,by first | omega | (simp [hR,hM];omega) | (simp;omega),rfl,rfl,fun _=>rfl,by first | omega | (simp [hR,hM];omega) | (simp;omega),?_⟩
        refine ⟨by first | exact bK (by omega) | exact ⟨by omega,by omega⟩,?_⟩
        exact ⟨k+1,_,_,rfl,rfl,rfl,⟨by omega,by first | (rw [hR,bO hk2,List.map_append,List.append_assoc,List.map_cons,List.map_nil,aGw (by omega) c3];done) | (rw [hR,bO hk2,List.map_append,List.append_assoc,List.map_cons,List.map_nil,aGx (by omega) c3];done),by rw [hM,bO hk2,List.map_append,List.append_assoc];rfl,cR hk2 ha (aMd ⟨by omega,by omega,by omega,by omega⟩)⟩,by omega⟩
       ·replace c3:=nq c3
        refine ⟨rfl,rfl,by first | omega | (simp [hR,hM];omega) | (simp;omega),rfl,rfl,fun _=>rfl,by first | omega | (simp [hR,hM];omega) | (simp;omega),?_⟩
        refine ⟨by first | exact bK (by omega) | exact ⟨by omega,by omega⟩,?_⟩
        exact ⟨k+1,_,_,rfl,rfl,rfl,⟨by omega,by first | (rw [hR,bO hk2,List.map_append,List.append_assoc,List.map_cons,List.map_nil,aGw (by omega) c3];done) | (rw [hR,bO hk2,List.map_append,List.append_assoc,List.map_cons,List.map_nil,aGx (by omega) c3];done),by rw [hM,bO hk2,List.map_append,List.append_assoc];rfl,cR hk2 ha (aMd ⟨by omega,by omega,by omega,by omega⟩)⟩,by omega⟩
  ·replace c1:=nq c1
   have hkl:k=l.length:=by omega
   subst hkl
   rw [List.take_length] at hR hM ha
   have hrs: ∀r∈R,r.length≤1048576:=by rw [hR];exact aR4 (by omega)
   refine ⟨aDX (⟨(List.replicate ((((1:Int)*2^(Int.toNat n)) - (1:Int)).toNat) (0:Int)).set (((((1:Int)*2^(Int.toNat n)) - (1:Int)) - (1:Int)).toNat) (1:Int),R,M⟩:cM) (by first | assumption | exact hrs),fun c4=>?_,fun c4=>?_⟩
   ·replace c4:=nt c4
    have hfin:eI l n=(nW,false):=aMe (by rw [←c4,cB,fA (by omega),hR,hM])
    refine ⟨?_,?_,?_,?_,trivial⟩
    ·first | (rw [dA (by omega)]<;>rfl) | (rw [dB hk2 hbad]<;>rfl) | (rw [bG (by omega)]<;>rfl) | (rw [hfin]<;>rfl) | (rw [hfin,cB,hR]<;>rfl) | (rw [hfin,cB,hM]<;>rfl) | (rw [hfin,cB,fA (by omega)]<;>rfl)
    ·first | (rw [dA (by omega)]<;>rfl) | (rw [dB hk2 hbad]<;>rfl) | (rw [bG (by omega)]<;>rfl) | (rw [hfin]<;>rfl) | (rw [hfin,cB,hR]<;>rfl) | (rw [hfin,cB,hM]<;>rfl) | (rw [hfin,cB,fA (by omega)]<;>rfl)
    ·first | (rw [dA (by omega)]<;>rfl) | (rw [dB hk2 hbad]<;>rfl) | (rw [bG (by omega)]<;>rfl) | (rw [hfin]<;>rfl) | (rw [hfin,cB,hR]<;>rfl) | (rw [hfin,cB,hM]<;>rfl) | (rw [hfin,cB,fA (by omega)]<;>rfl)
    ·first | (rw [dA (by omega)]<;>rfl) | (rw [dB hk2 hbad]<;>rfl) | (rw [bG (by omega)]<;>rfl) | (rw [hfin]<;>rfl) | (rw [hfin,cB,hR]<;>rfl) | (rw [hfin,cB,hM]<;>rfl) | (rw [hfin,cB,fA (by omega)]<;>rfl)
   ·replace c4:=nf c4
    have hfin:eI l n=(cB n l,true):=aL4 (by omega) ha (by rw [←c4,cB,fA (by omega),hR,hM])
    refine ⟨?_,?_,?_,?_,trivial⟩
    ·first | (rw [dA (by omega)]<;>rfl) | (rw [dB hk2 hbad]<;>rfl) | (rw [bG (by omega)]<;>rfl) | (rw [hfin]<;>rfl) | (rw [hfin,cB,hR]<;>rfl) | (rw [hfin,cB,hM]<;>rfl) | (rw [hfin,cB,fA (by omega)]<;>rfl)
    ·first | (rw [dA (by omega)]<;>rfl) | (rw [dB hk2 hbad]<;>rfl) | (rw [bG (by omega)]<;>rfl) | (rw [hfin]<;>rfl) | (rw [hfin,cB,hR]<;>rfl) | (rw [hfin,cB,hM]<;>rfl) | (rw [hfin,cB,fA (by omega)]<;>rfl)
    ·first | (rw [dA (by omega)]<;>rfl) | (rw [dB hk2 hbad]<;>rfl) | (rw [bG (by omega)]<;>rfl) | (rw [hfin]<;>rfl) | (rw [hfin,cB,hR]<;>rfl) | (rw [hfin,cB,hM]<;>rfl) | (rw [hfin,cB,fA (by omega)]<;>rfl)
    ·first | (rw [dA (by omega)]<;>rfl) | (rw [dB hk2 hbad]<;>rfl) | (rw [bG (by omega)]<;>rfl) | (rw [hfin]<;>rfl) | (rw [hfin,cB,hR]<;>rfl) | (rw [hfin,cB,hM]<;>rfl) | (rw [hfin,cB,fA (by omega)]<;>rfl)
end Go.Proofs.YtdfebigfnjfgpaaGreat
