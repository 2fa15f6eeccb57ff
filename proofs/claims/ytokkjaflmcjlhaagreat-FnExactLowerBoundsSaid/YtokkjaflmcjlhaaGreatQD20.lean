/-
  Contracts and plain laws, joined: part 21.
-/
import Derived.Test.YtokkjaflmcjlhaaGreatQD3
namespace Go.Proofs.YtokkjaflmcjlhaaGreat
open Go.ChangeShapes Go.WideShapes Go.ChangeAt Go.RowKit
set_option linter.unusedVariables false
set_option linter.unusedSimpArgs false
set_option maxRecDepth 100000
set_option maxHeartbeats 4000000
def aBS (n:Nat) (s:ByteArray):ByteArray:=if h:n=0 then s else aBS (n/10) (wI [IntKind.u8.wrap (48+Int.tmod (n:Int) 10)]++s)
 termination_by n
 decreasing_by omega
def aW (k:Int):ByteArray:=if k≤0 then ⟨#[109,48]⟩ else (⟨#[109]⟩:ByteArray)++aBS k.toNat ⟨#[]⟩
theorem aIT (s:ByteArray):aBS 0 s=s:=by rw [aBS];simp
theorem aQ5 {n:Nat} (h:0<n) (s:ByteArray):aBS n s=aBS (n/10) (wI [IntKind.u8.wrap (48+Int.tmod (n:Int) 10)]++s):=by rw [aBS,dif_neg (by omega)]
theorem aBT (l:List Int):(wI l).size=l.length:=by simp [wI,ByteArray.size]
def aLs (k:Int) (_:Int):Int:=k
def oK (_:Int):Nat:=1
theorem nH {α:Type} {s c:α→Nat} (h: ∀x,s x≤4+5*c x): ∀l:List α,bO s l≤5*xB c l
 | []=>by simp [bO,xB]
 | a::l=>by
   have h1:=h a
   have h2:=nH h l
   simp only [bO,xB,List.map_cons,List.sum_cons,List.length_cons] at*
   omega
theorem aG7 {α:Type} {s:α→Nat} (h: ∀x,s x≤4): ∀l:List α,bO s l≤5*l.length
 | []=>by simp [bO]
 | a::l=>by
   have h1:=h a
   have h2:=aG7 h l
   simp only [bO,List.map_cons,List.sum_cons,List.length_cons] at*
   omega
theorem aLt {α:Type} {s c:α→Nat} (h: ∀x,s x≤4+5*c x) (l:List α) (k:Nat) (hk:k≤l.length):bO s (l.take k)≤5*(k+bO c (l.take k)):=by
 have:=nH h (l.take k)
 unfold xB at this
 rw [List.length_take,Nat.min_eq_left hk] at this
 exact this
theorem aTh {α:Type} {s:α→Nat} (h: ∀x,s x≤4) (l:List α) (k:Nat) (hk:k≤l.length):bO s (l.take k)≤5*k:=by
 have:=aG7 h (l.take k)
 rw [List.length_take,Nat.min_eq_left hk] at this
 exact this
abbrev oL (k:Int):Prop:=cU Tryz.prog 89 [.one (.int .i64 k)] (.p none (.str (aW k))) []
theorem aAY (k:Int) (hk:k≤4611686018427387904):oL k:=by
 refine aV bF aS Tryz.func89 (by kernel_rfl) (.br (.fin []) (.loop (Nat × ByteArray) (Q2 Nat ByteArray) [0,3,6,7,8,9,10,11,12,13,14,15,16,17] [1200] (fun yy0=>[(0,vI (yy0.1:Int)),(3,.p none (.str yy0.2))]) (fun yy0=>[]) (fun yy0=>yy0.1≤4611686018427387904∧yy0.2.size+yy0.1≤4611686018427387904∧aBS yy0.1 yy0.2=aBS k.toNat ⟨#[]⟩) (fun yy0=>yy0.1) (fun yy0=> .br (.bytes [IntKind.u8.wrap ((48:Int)+(Int.tmod (yy0.1:Int) (10:Int)))]<| .back []) (.fin [])))) (p:=((decide (k≤(0:Int)))=true→(⟨#[109,48]⟩:ByteArray)=(aW k)∧True)∧((decide (k≤(0:Int)))=false→(∃(n:Nat) (s:ByteArray),k=(n:Int)∧(⟨#[]⟩:ByteArray)=s∧n≤4611686018427387904∧s.size+n≤4611686018427387904∧aBS n s=aBS k.toNat ⟨#[]⟩)∧ ∀(n:Nat) (s:ByteArray),(n≤4611686018427387904∧s.size+n≤4611686018427387904∧aBS n s=aBS k.toNat ⟨#[]⟩)→((decide ((0:Int)<(n:Int)))=true→(10:Int)≠0∧cG ((48:Int)+(Int.tmod (n:Int) (10:Int)))∧[[.int .u8 (IntKind.u8.wrap ((48:Int)+(Int.tmod (n:Int) (10:Int))))]]= [IntKind.u8.wrap ((48:Int)+(Int.tmod (n:Int) (10:Int)))].map byD∧(wI [IntKind.u8.wrap ((48:Int)+(Int.tmod (n:Int) (10:Int)))]).size+s.size≤9223372036854775807∧(10:Int)≠0∧cG (Int.tdiv (n:Int) (10:Int))∧ ∃(n' :Nat) (s' :ByteArray),(Int.tdiv (n:Int) (10:Int))=(n' :Int)∧((wI [IntKind.u8.wrap ((48:Int)+(Int.tmod (n:Int) (10:Int)))])++s)=s' ∧(n' ≤4611686018427387904∧s'.size+n' ≤4611686018427387904∧aBS n' s' =aBS k.toNat ⟨#[]⟩)∧n' <n)∧((decide ((0:Int)<(n:Int)))=false→(⟨#[109]⟩:ByteArray).size+s.size≤9223372036854775807∧((⟨#[109]⟩:ByteArray)++s)=(aW k)∧True))) (by kernel_rfl) ?_
 refine ⟨fun c0=>?_,fun c0=>?_⟩
 ·replace c0:=yq c0
  refine ⟨?_,trivial⟩
  ·first | (rw [aW,if_pos c0];done) | (rw [aW,if_neg c0];rw [show n=0 from by omega,aIT] at hm;rw [hm])
 ·replace c0:=nq c0
  obtain ⟨n0,rfl⟩:=Int.eq_ofNat_of_zero_le (show 0≤k by omega)
  refine ⟨⟨n0,(⟨#[]⟩:ByteArray),rfl,rfl,by omega,by simp [ByteArray.size];omega,by simp⟩,fun n s ⟨hn,hs,hm⟩=>?_⟩
  refine ⟨fun c1=>?_,fun c1=>?_⟩
  ·replace c1:=yq c1
   have hd:=aQ5 (n:=n) (by omega) s
   have htm:Int.tmod (n:Int) 10=((n%10:Nat):Int):=rfl
   have htd:Int.tdiv (n:Int) 10=((n/10:Nat):Int):=rfl
   refine ⟨by omega,⟨by omega,by omega⟩,rfl,by first | (simp only [aBT,List.length_cons,List.length_nil];omega) | (show 1+s.size≤_;omega),by omega,⟨by omega,by omega⟩,?_⟩
   exact ⟨n/10,(wI [IntKind.u8.wrap ((48:Int)+(Int.tmod (n:Int) (10:Int)))])++s,rfl,rfl,⟨by omega,by rw [ByteArray.size_append,aBT];simp;omega,by rw [←hd];exact hm⟩,by omega⟩
  ·replace c1:=nq c1
   refine ⟨by first | (simp only [aBT,List.length_cons,List.length_nil];omega) | (show 1+s.size≤_;omega),?_,trivial⟩
   ·first | (rw [aW,if_pos c0];done) | (rw [aW,if_neg c0];rw [show n=0 from by omega,aIT] at hm;rw [hm])
def cM (k:Int) (l:List Int):List Int:=qB aLs oK k l
def bX (l:List Int):Nat:=bO oK l
theorem iM (l:List Int):bX l≤5*bZ l:=aG7 (fun _=>by simp [oK]) l
def gS (k:Int) (l:List (List Int)):List (List Int):=qB cM bX k l
def kF (l:List (List Int)):Nat:=bO bX l
theorem uK (l:List (List Int)):kF l≤5*cI l:=nH (fun y=>by have:=iM y;omega) l
def aC7 (k:Int) (x:aR):aR:=⟨aW (k),k+1,gS (k+1+1) x.rows⟩
def jA (x:aR):Nat:=1+1+kF x.rows
theorem aG8 (x:aR):jA x≤4+5*eQ x:=by
 have:=uK x.rows
 unfold jA eQ;omega
def aE7 (k:Int) (l:List aR):List aR:=qB aC7 jA k l
def vY (l:List aR):Nat:=bO jA l
theorem aBU (l:List aR):vY l≤5*hJ l:=nH aG8 l
def vZ (k:Int) (x:aT):aT:=⟨aE7 (k) x.tables⟩
def dC (x:aT):Nat:=vY x.tables
theorem aAe (x:aT):dC x≤5*bD x:=by
 have:=aBU x.tables
 unfold dC bD;omega
def nI (k:Int) (x:aH):aH:=⟨cM (k) x.columns,gS (k+((bX x.columns:Nat):Int)) x.values,cM (k+((bX x.columns:Nat):Int)+((kF x.values:Nat):Int)) x.counts⟩
def dT (x:aH):Nat:=bX x.columns+kF x.values+bX x.counts
theorem wX (x:aH):dT x≤4+5*bH x:=by
 have:=iM x.columns
 have:=uK x.values
 have:=iM x.counts
 unfold dT bH;omega
def kG (k:Int) (l:List aH):List aH:=qB nI dT k l
def kH (l:List aH):Nat:=bO dT l
theorem pY (l:List aH):kH l≤5*cR l:=nH wX l
def nJ (k:Int) (x:aC):aC:=⟨aW (k),k+1,k+1+1,kG (k+1+1+1) x.groups⟩
def dU (x:aC):Nat:=1+1+1+kH x.groups
theorem wY (x:aC):dU x≤4+5*bA x:=by
 have:=pY x.groups
 unfold dU bA;omega
def qN (k:Int) (l:List aC):List aC:=qB nJ dU k l
def kI (l:List aC):Nat:=bO dU l
theorem pZ (l:List aC):kI l≤5*dE l:=nH wY l
def sW (k:Int) (x:bS):bS:=⟨x.version,qN (k) x.tables⟩
def dQ (x:bS):Nat:=kI x.tables
theorem zS (x:bS):dQ x≤5*bL x:=by
 have:=pZ x.tables
 unfold dQ bL;omega
def nK (k:Int) (x:aM):aM:=⟨aW (k),cM (k+1) x.src,k+1+((bX x.src:Nat):Int)⟩
def dV (x:aM):Nat:=1+bX x.src+1
theorem wZ (x:aM):dV x≤4+5*bV x:=by
 have:=iM x.src
 unfold dV bV;omega
def qO (k:Int) (l:List aM):List aM:=qB nK dV k l
def eW (l:List aM):Nat:=bO dV l
theorem qA (l:List aM):eW l≤5*bU l:=nH wZ l
def pN (k:Int) (x:aG):aG:=⟨aW (k),k+1,aW (k+1+1),k+1+1+1⟩
def eC (x:aG):Nat:=1+1+1+1
theorem zT (x:aG):eC x≤4+5*cF x:=by
 unfold eC cF;omega
def sX (k:Int) (l:List aG):List aG:=qB pN eC k l
def lK (l:List aG):Nat:=bO eC l
theorem sA (l:List aG):lK l≤5*cT l:=nH zT l
def sY (k:Int) (x:StoreD):StoreD:=⟨vZ (k) x.database,sW (k+((dC x.database:Nat):Int)) x.catalogue,qO (k+((dC x.database:Nat):Int)+((dQ x.catalogue:Nat):Int)) x.dependencies,sX (k+((dC x.database:Nat):Int)+((dQ x.catalogue:Nat):Int)+((eW x.dependencies:Nat):Int)) x.inclusions⟩
def kJ (x:StoreD):Nat:=dC x.database+dQ x.catalogue+eW x.dependencies+lK x.inclusions
theorem aG9 (x:StoreD):kJ x≤5*cJ x:=by
 have:=aAe x.database
 have:=zS x.catalogue
 have:=qA x.dependencies
 have:=sA x.inclusions
 unfold kJ cJ;omega
end Go.Proofs.YtokkjaflmcjlhaaGreat
