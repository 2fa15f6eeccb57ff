/-
  Contracts and plain laws, joined: part 8.
-/
import Derived.Test.YtlidmoeecphbmaaGreateb6
import Derived.Test.YtlidmoeecphbmaaGreateb3
namespace Go.Proofs.YtlidmoeecphbmaaGreat
open Go.ChangeShapes Go.WideShapes Go.ChangeAt Go.RowKit
set_option linter.unusedVariables false
set_option linter.unusedSimpArgs false
set_option maxRecDepth 100000
set_option maxHeartbeats 4000000
abbrev aHS (a:dG)(m:Int):Prop:=cH Tryz.prog 196 [.agg [.str a.name,.sl 3 1 (a.vars.map intD)],.one (.int .i64 m)] (vI (vsS m a.vars (min a.vars.length 3))) []
theorem aUM (a:dG)(m:Int):aHS a m:=by
 refine aW bH aO Tryz.func196 (by kernel_rfl) (.loop (Nat × Int) (Q2 Nat Int) (rg 5 34) [] (fun yy0=>[(6,vI (yy0.1:Int)),(5,vI yy0.2)]) (fun yy0=>[]) (fun yy0=>(yy0.1≤a.vars.length∧yy0.1≤3)∧yy0.2=vsS m a.vars yy0.1) (fun yy0=>a.vars.length - yy0.1) (fun yy0=> .len a.vars.length<| .br (.lit<| .lit<| .br (.br (.elem _ intD a.vars (fun e27=> .call (vB (eI e27 (0:Int) (3:Int))) []<| .lit<| .br (.elem _ intD a.vars (fun e35=> .back [])) (.back []))) (.back [])) (.fin [])) (.fin []))) (p:=(a.vars.map intD).length≤9223372036854775807→(∃(k:Nat) (o:Int),0=(k:Int)∧0=o∧(k≤a.vars.length∧k≤3)∧o=vsS m a.vars k)∧ ∀(k:Nat) (o:Int),((k≤a.vars.length∧k≤3)∧o=vsS m a.vars k)→Lm intD a.vars∧Br ((k:Int)<(a.vars.length:Int)) (Br ((k:Int)<3) ((0≤(k:Int)∧(k:Int)≤64)∧Br ((cI .and .i64 (m/2^k) (1:Int))=1) (0≤(k:Int)∧Em intD a.vars k fun e27=>eX e27 (0:Int) (3:Int)∧Bb (eI e27 (0:Int) (3:Int)) (0≤(k:Int)∧Em intD a.vars k fun e35=>(0≤e35∧e35≤64)∧bO ((1:Int)*2^(Int.toNat e35))∧bO ((k:Int)+1)∧ ∃(k' :Nat) (o' :Int),((k:Int)+1)=(k' :Int)∧(cI .or .i64 o ((1:Int)*2^(Int.toNat e35)))=o' ∧((k' ≤a.vars.length∧k' ≤3)∧o' =vsS m a.vars k')∧a.vars.length - k' <a.vars.length - k) (bO ((k:Int)+1)∧ ∃(k' :Nat) (o' :Int),((k:Int)+1)=(k' :Int)∧o=o' ∧((k' ≤a.vars.length∧k' ≤3)∧o' =vsS m a.vars k')∧a.vars.length - k' <a.vars.length - k)) (bO ((k:Int)+1)∧ ∃(k' :Nat) (o' :Int),((k:Int)+1)=(k' :Int)∧o=o' ∧((k' ≤a.vars.length∧k' ≤3)∧o' =vsS m a.vars k')∧a.vars.length - k' <a.vars.length - k)) (o=(vsS m a.vars (min a.vars.length 3))∧True)) (o=(vsS m a.vars (min a.vars.length 3))∧True)) (by kernel_rfl) ?_
 intro n0
 simp only[List.length_map] at n0
 refine⟨⟨0,0,rfl,rfl,⟨Nat.zero_le _,by omega⟩,rfl⟩,fun k o ⟨hk,hv⟩=>?_⟩
 refine⟨List.length_map _,dd (fun g12=>?_) fun g12=>?_⟩
 ·refine dd (fun c0=>?_) fun c0=>?_
  ·refine⟨⟨by omega,by omega⟩,dd (fun g23=>?_) fun g23=>?_⟩
   ·refine⟨by omega,rfl,by omega,fun e27 h27=>?_⟩
    try (obtain rfl:=(aZ h27 h27).symm)
    refine⟨iW _ _ _,db (fun c1=>?_) fun c1=>?_⟩
    ·obtain⟨w1,w2,w3⟩:=aDa c1
     refine⟨by omega,rfl,by omega,fun e35 h35=>?_⟩
     try (obtain rfl:=(aZ h27 h35).symm)
     refine⟨⟨by omega,by omega⟩,by exact w1,by exact⟨by omega,by omega⟩,?_⟩
     exact⟨k+1,_,rfl,rfl,⟨by omega,by (rw[aWP h27 g23 c1,hv];done)⟩,by omega⟩
    ·refine⟨by exact⟨by omega,by omega⟩,?_⟩
     exact⟨k+1,_,rfl,rfl,⟨by omega,by (rw[aUD h27 (by simp[g23,c1]),hv];done)⟩,by omega⟩
   ·refine⟨by exact⟨by omega,by omega⟩,?_⟩
    exact⟨k+1,_,rfl,rfl,⟨by omega,by (obtain⟨y,hy⟩:=dE (l:=a.vars) (k:=k) (by omega);rw[aUD hy (by simp[g23]),hv])⟩,by omega⟩
  ·refine⟨?_,trivial⟩
   ·(rw[hv];congr 1;omega)
 ·refine⟨?_,trivial⟩
  ·(rw[hv];congr 1;omega)
abbrev zD (x:aM)(a:dG):AV × List (Nat × Rs):=(.own 0,[(0,.arr 192 3 true ((lK x a).map aE))])
abbrev aE8 (x:aM)(a:dG):Prop:=cH Tryz.prog 155 [.agg [.str x.name,.int .i64 x.arity,.int .i64 x.rowCount,.sl 220 3 (x.groups.map aD)],.agg [.str a.name,.sl 3 1 (a.vars.map intD)]] (zD x a).1 (zD x a).2
theorem aR6 (x:aM)(a:dG)(hc:bI x≤1048576)(ha:jU a≤1048576):aE8 x a:=by
 refine aW bH aO Tryz.func155 (by kernel_rfl) (.call (vB (cN x)) []<| .br (.fin []) (.lit<| .lit<| .lit<| .br (.fin []) (.len a.vars.length<| .lit<| .lit<| .lit<| .lit<| .br (.fin []) (.loop (Nat × (List aH)) (Q2 Nat (List aH)) ([5,6,7,8,9]++rg 26 31) [2600,3600,4100,5500,5600] (fun yy0=>[(6,vI (yy0.1:Int)),(5,.own 2600)]) (fun yy0=>[(2600,some (.arr 192 3 true (yy0.2.map aE)))]) (fun yy0=>yy0.1≤((2:Int)^x.arity.toNat - 1).toNat∧yy0.2=(List.range yy0.1).map (tcC x a)) (fun yy0=>((2:Int)^x.arity.toNat - 1).toNat - yy0.1) (fun yy0=> .br (bL (sN (yy0.1:Int))<| bL (oJ a.vars (eK (yy0.1:Int)))<| .call (vI (gB ((fH a.vars (eK (yy0.1:Int))).1))) []<| .call (vI (gB a.vars)) []<| .call (vI ((iB x (eK (yy0.1:Int))).getD 0 0)) []<| .call (vI (pU ((iB x (eK (yy0.1:Int))).getD 0 0))) []<| .app aH aE yy0.2 ([(⟨gB ((fH a.vars (eK (yy0.1:Int))).1),gB a.vars,pU ((iB x (eK (yy0.1:Int))).getD 0 0)⟩:aH)]:List aH)<| .back [(2600,5600)]) (.fin [(0,2600)])))))) (p:=(x.groups.map aD).length≤9223372036854775807→(a.vars.map intD).length≤9223372036854775807→aBU x∧Nr (cN x) ([]=(lK x a).map aE∧True) (Br (x.rowCount=0) ([]=(lK x a).map aE∧True) (Lm intD a.vars∧Nb ((a.vars.length:Int)=x.arity) ([]=(lK x a).map aE∧True) ((∃(m:Nat) (out:List aH),0=(m:Int)∧[]=out.map aE∧m≤((2:Int)^x.arity.toNat - 1).toNat∧out=(List.range m).map (tcC x a))∧ ∀(m:Nat) (out:List aH),(m≤((2:Int)^x.arity.toNat - 1).toNat∧out=(List.range m).map (tcC x a))→(0≤x.arity∧x.arity≤64)∧bO ((1:Int)*2^(Int.toNat x.arity))∧bO (((1:Int)*2^(Int.toNat x.arity)) - 1)∧Br ((m:Int)<(((1:Int)*2^(Int.toNat x.arity)) - 1)) (yJ (m:Int)∧rH a.vars (eK (m:Int))∧yV ((fH a.vars (eK (m:Int))).1)∧yV a.vars∧aEO x (eK (m:Int))∧aEQ ((iB x (eK (m:Int))).getD 0 0)∧out.map aE=out.map aE∧[[.int .i64 (gB ((fH a.vars (eK (m:Int))).1)),.int .i64 (gB a.vars),.int .i64 (pU ((iB x (eK (m:Int))).getD 0 0))]]=([(⟨gB ((fH a.vars (eK (m:Int))).1),gB a.vars,pU ((iB x (eK (m:Int))).getD 0 0)⟩:aH)]:List aH).map aE∧(∀x,bW (aE x)=true)∧(out.length+([(⟨gB ((fH a.vars (eK (m:Int))).1),gB a.vars,pU ((iB x (eK (m:Int))).getD 0 0)⟩:aH)]:List aH).length)*24≤140737488355328∧bO ((m:Int)+1)∧ ∃(m' :Nat) (out' :List aH),((m:Int)+1)=(m' :Int)∧(out++[(⟨gB ((fH a.vars (eK (m:Int))).1),gB a.vars,pU ((iB x (eK (m:Int))).getD 0 0)⟩:aH)]).map aE=out'.map aE∧(m' ≤((2:Int)^x.arity.toNat - 1).toNat∧out' =(List.range m').map (tcC x a))∧((2:Int)^x.arity.toNat - 1).toNat - m' <((2:Int)^x.arity.toNat - 1).toNat - m) (out.map aE=(lK x a).map aE∧True))))) (by kernel_rfl) ?_
 intro n0 n1
 simp only[List.length_map] at n0 n1
 have q3:jU a=a.name.size+cG a.vars:=rfl
 have q4:cG a.vars=a.vars.length:=rfl
 refine⟨aMg _ (by omega),dm (fun g13=>?_) fun g13=>?_⟩
 ·have hbad:rY x a=false:=by (simp[rY, *];done)
  refine⟨?_,trivial⟩
  ·(rw[vK hbad]<;>rfl)
 ·refine dd (fun g18=>?_) fun g18=>?_
  ·have hbad:rY x a=false:=by (simp[rY, *];done)
   refine⟨?_,trivial⟩
   ·(rw[vK hbad]<;>rfl)
  ·refine⟨List.length_map _,dn (fun c0=>?_) fun c0=>?_⟩
   ·have hbad:rY x a=false:=by (simp[rY, *];done)
    refine⟨?_,trivial⟩
    ·(rw[vK hbad]<;>rfl)
   ·have hok:rY x a=true:=by (simp[rY, *];done)
    obtain⟨hS,hA⟩:=aB3 hok
    have hn:=aA4 hS
    have hp:=qO hn
    refine⟨⟨0,([]:List aH),rfl,rfl,Nat.zero_le _,rfl⟩,fun m out ⟨hm,ho⟩=>?_⟩
    refine⟨⟨by omega,by omega⟩,⟨by omega,by omega⟩,⟨by omega,by omega⟩,dd (fun c1=>?_) fun c1=>?_⟩
    ·have hbl:(eK (m:Int)).length≤3:=tQ _ 3
     have hE:=aND (m:=(m:Int)) hn hA (by omega) (by omega)
     have hE2:=aJw (m:=(m:Int)) hn hA (by omega) (by omega)
     refine⟨aJk (m:Int) (by omega),aC3 _ _ (by omega),aJx _,aJx _,aRM _ (eK (m:Int)) (by omega) (by omega),aRO _,rfl,rfl,fun _=>rfl,by (simp[ho];omega),?_⟩
     refine⟨⟨by omega,by omega⟩,?_⟩
     exact⟨m+1,_,rfl,rfl,⟨by omega,by rw[ho,List.range_succ,List.map_append,List.map_cons,List.map_nil,tcC];(rw[hE];done)⟩,by omega⟩
    ·refine⟨?_,trivial⟩
     ·(rw[aHH hok,ho,show ((2:Int)^x.arity.toNat - 1).toNat=m by omega])
abbrev zE (x:aM)(a:dG):AV × List (Nat × Rs):=(.own 0,[(0,.arr 192 3 true ((lK x a).map aE))])
abbrev aE9 (x:aM)(a:dG):Prop:=cH Tryz.prog 140 [.agg [.str x.name,.int .i64 x.arity,.int .i64 x.rowCount,.sl 220 3 (x.groups.map aD)],.agg [.str a.name,.sl 3 1 (a.vars.map intD)]] (zE x a).1 (zE x a).2
theorem aR7 (x:aM)(a:dG)(hc:bI x≤1048576)(ha:jU a≤1048576):aE9 x a:=by
 refine aW bH aO Tryz.func140 (by kernel_rfl) (.call (vB (cN x)) []<| .br (.fin [(0,700)]) (.lit<| .lit<| .lit<| .br (.fin [(0,700)]) (.len a.vars.length<| .lit<| .lit<| .lit<| .lit<| .br (.fin [(0,700)]) (.loop (Nat × (List aH)) (Q2 Nat (List aH)) ([5,6,7]++rg 25 23) [700,4200,4600,4700] (fun yy0=>[(6,vI (yy0.1:Int)),(5,.own 700)]) (fun yy0=>[(700,some (.arr 192 3 true (yy0.2.map aE)))]) (fun yy0=>yy0.1≤((2:Int)^x.arity.toNat - 1).toNat∧yy0.2=(List.range yy0.1).map (tcC x a)) (fun yy0=>((2:Int)^x.arity.toNat - 1).toNat - yy0.1) (fun yy0=> .br (.call (vI (vsS (yy0.1:Int) a.vars (min a.vars.length 3))) []<| .call (vI (gB a.vars)) []<| bL (sO (yy0.1:Int))<| .call (vI ((iB x (eK (yy0.1:Int))).getD 0 0)) []<| .call (vI (pU ((iB x (eK (yy0.1:Int))).getD 0 0))) []<| .app aH aE yy0.2 ([(⟨vsS (yy0.1:Int) a.vars (min a.vars.length 3),gB a.vars,pU ((iB x (eK (yy0.1:Int))).getD 0 0)⟩:aH)]:List aH)<| .back [(700,4700)]) (.fin [(0,700)])))))) (p:=(x.groups.map aD).length≤9223372036854775807→(a.vars.map intD).length≤9223372036854775807→vJ x∧Nr (cN x) ([]=(lK x a).map aE∧True) (Br (x.rowCount=0) ([]=(lK x a).map aE∧True) (Lm intD a.vars∧Nb ((a.vars.length:Int)=x.arity) ([]=(lK x a).map aE∧True) ((∃(m:Nat) (out:List aH),0=(m:Int)∧[]=out.map aE∧m≤((2:Int)^x.arity.toNat - 1).toNat∧out=(List.range m).map (tcC x a))∧ ∀(m:Nat) (out:List aH),(m≤((2:Int)^x.arity.toNat - 1).toNat∧out=(List.range m).map (tcC x a))→(0≤x.arity∧x.arity≤64)∧bO ((1:Int)*2^(Int.toNat x.arity))∧bO (((1:Int)*2^(Int.toNat x.arity)) - 1)∧Br ((m:Int)<(((1:Int)*2^(Int.toNat x.arity)) - 1)) (aHS a (m:Int)∧aEP a.vars∧yK (m:Int)∧aEN x (eK (m:Int))∧aER ((iB x (eK (m:Int))).getD 0 0)∧out.map aE=out.map aE∧[[.int .i64 (vsS (m:Int) a.vars (min a.vars.length 3)),.int .i64 (gB a.vars),.int .i64 (pU ((iB x (eK (m:Int))).getD 0 0))]]=([(⟨vsS (m:Int) a.vars (min a.vars.length 3),gB a.vars,pU ((iB x (eK (m:Int))).getD 0 0)⟩:aH)]:List aH).map aE∧(∀x,bW (aE x)=true)∧(out.length+([(⟨vsS (m:Int) a.vars (min a.vars.length 3),gB a.vars,pU ((iB x (eK (m:Int))).getD 0 0)⟩:aH)]:List aH).length)*24≤140737488355328∧bO ((m:Int)+1)∧ ∃(m' :Nat) (out' :List aH),((m:Int)+1)=(m' :Int)∧(out++[(⟨vsS (m:Int) a.vars (min a.vars.length 3),gB a.vars,pU ((iB x (eK (m:Int))).getD 0 0)⟩:aH)]).map aE=out'.map aE∧(m' ≤((2:Int)^x.arity.toNat - 1).toNat∧out' =(List.range m').map (tcC x a))∧((2:Int)^x.arity.toNat - 1).toNat - m' <((2:Int)^x.arity.toNat - 1).toNat - m) (out.map aE=(lK x a).map aE∧True))))) (by kernel_rfl) ?_
 intro n0 n1
 simp only[List.length_map] at n0 n1
 have q3:jU a=a.name.size+cG a.vars:=rfl
 have q4:cG a.vars=a.vars.length:=rfl
 refine⟨aHA _ (by omega),dm (fun g11=>?_) fun g11=>?_⟩
 ·have hbad:rY x a=false:=by (simp[rY, *];done)
  refine⟨?_,trivial⟩
  ·(rw[vK hbad]<;>rfl)
 ·refine dd (fun g16=>?_) fun g16=>?_
  ·have hbad:rY x a=false:=by (simp[rY, *];done)
   refine⟨?_,trivial⟩
   ·(rw[vK hbad]<;>rfl)
  ·refine⟨List.length_map _,dn (fun c0=>?_) fun c0=>?_⟩
   ·have hbad:rY x a=false:=by (simp[rY, *];done)
    refine⟨?_,trivial⟩
    ·(rw[vK hbad]<;>rfl)
   ·have hok:rY x a=true:=by (simp[rY, *];done)
    obtain⟨hS,hA⟩:=aB3 hok
    have hn:=aA4 hS
    have hp:=qO hn
    refine⟨⟨0,([]:List aH),rfl,rfl,Nat.zero_le _,rfl⟩,fun m out ⟨hm,ho⟩=>?_⟩
    refine⟨⟨by omega,by omega⟩,⟨by omega,by omega⟩,⟨by omega,by omega⟩,dd (fun c1=>?_) fun c1=>?_⟩
    ·have hbl:(eK (m:Int)).length≤3:=tQ _ 3
     have hE:=aND (m:=(m:Int)) hn hA (by omega) (by omega)
     have hE2:=aJw (m:=(m:Int)) hn hA (by omega) (by omega)
     refine⟨aUM _ _,aRN _,aJl (m:Int) (by omega),aRL _ (eK (m:Int)) (by omega) (by omega),aRP _,rfl,rfl,fun _=>rfl,by (simp[ho];omega),?_⟩
     refine⟨⟨by omega,by omega⟩,?_⟩
     exact⟨m+1,_,rfl,rfl,⟨by omega,by rw[ho,List.range_succ,List.map_append,List.map_cons,List.map_nil,tcC];(rw[hE2];done)⟩,by omega⟩
    ·refine⟨?_,trivial⟩
     ·(rw[aHH hok,ho,show ((2:Int)^x.arity.toNat - 1).toNat=m by omega])
theorem aLN {s:StoreD}{q:QueryD}{m:Int}(h:qOk s q m=true):fF m=gS (fP m) q.atoms.length:=by
 obtain⟨_,_,_,h1,h2,_,_,h3⟩:=aDc h
 exact aTw ⟨by omega,h2⟩ h3.2
theorem aJy (m:Int):(fF m).length≤4:=by
 cases h:eI m 0 15 with
 | false=>rw[aMu h];exact Nat.zero_le _
 | true=>rw[aD8 h];exact yR _ _
theorem aUN {s:StoreD}{q:QueryD}{m x:Int}(h:qOk s q m=true)(hx:x∈fF m):0≤x∧x.toNat<q.atoms.length∧fP m x.toNat=true:=by
 rw[aLN h] at hx
 exact aMs.1 hx
def qcA (s:StoreD)(q:QueryD)(x:Int):List aH:=lK (gC s q x.toNat) (q.atoms.getD x.toNat iR)
def qcL (s:StoreD)(q:QueryD)(l:List Int):List aH:=l.flatMap (qcA s q)
def aCo (s:StoreD)(q:QueryD)(l:List Int):Bool:=l.all fun x=> !decide ((qcA s q x).length=0)
def dX (s:StoreD)(q:QueryD)(m:Int):List aH:=if (qOk s q m&&aCo s q (fF m))=true then qcL s q (fF m) else []
theorem aKA {s:StoreD}{q:QueryD}{m:Int}(h:qOk s q m=true)(h2:aCo s q (fF m)=true):dX s q m=qcL s q (fF m):=by rw[dX,if_pos (by rw[h,h2];rfl)]
theorem aCp {s:StoreD}{q:QueryD}{m:Int}(h:qOk s q m=false):dX s q m= []:=by rw[dX,if_neg (by rw[h];simp)]
theorem aKB {s:StoreD}{q:QueryD}{m x:Int}(hx:x∈fF m)(h:(qcA s q x).length=0):dX s q m= []:=by
 rw[dX,if_neg]
 intro h2
 rw[Bool.and_eq_true] at h2
 have:=List.all_eq_true.1 h2.2 x hx
 simp[h] at this
theorem aNH (s:StoreD)(q:QueryD)(l:List Int)(x:Int):qcL s q (l++[x])=qcL s q l++qcA s q x:=by
 rw[qcL,List.flatMap_append];simp[qcL]
theorem aKC {s:StoreD}{q:QueryD}{l:List Int}{x:Int}(h:aCo s q l=true)(hx: ¬((qcA s q x).length:Int)=0):aCo s q (l++[x])=true:=by
 rw[aCo,List.all_append,Bool.and_eq_true]
 refine⟨h,?_⟩
 simp only[List.all_cons,List.all_nil,Bool.and_true,Bool.not_eq_true',decide_eq_false_iff_not]
 omega
theorem aFW (s:StoreD)(q:QueryD): ∀l:List Int,(qcL s q l).length≤7*l.length
 | []=>Nat.zero_le _
 | x::l=>by
   have h1:=aHI (gC s q x.toNat) (q.atoms.getD x.toNat iR)
   have h2:=aFW s q l
   have h3:qcL s q (x::l)=qcA s q x++qcL s q l:=by simp[qcL]
   rw[h3,List.length_append,List.length_cons]
   unfold qcA
   omega
theorem aKD (s:StoreD)(q:QueryD)(m:Int):(dX s q m).length≤28:=by
 unfold dX
 split
 ·have h1:=aFW s q (fF m)
  have h2:=aJy m
  omega
 ·exact Nat.zero_le _
abbrev aHT (s:StoreD)(q:QueryD)(m:Int):Prop:=cH Tryz.prog 39 [.agg [.sl 142 3 (s.database.tables.map aT),.int .i64 s.catalogue.version,.sl 88 4 (s.catalogue.tables.map aG),.sl 121 3 (s.dependencies.map aP),.sl 123 4 (s.inclusions.map aS)],.agg [.int .i64 q.variableCount,.sl 125 2 (q.atoms.map bM)],.one (.int .i64 m)] (vB (qOk s q m)) []
theorem aUO (s:StoreD)(q:QueryD)(m:Int)(hc:dT s≤1048576):aHT s q m:=by
 refine aW bH aO Tryz.func39 (by kernel_rfl) (.call (vB (gY s)) []<| .br (.call (vB (gT s.database q)) []<| .lit<| .br (.call (vI (nN q)) []<| .call (vB (eI m (1:Int) (nN q))) []<| .fin []) (.fin [])) (.fin [])) (p:=(s.database.tables.map aT).length≤9223372036854775807→(s.catalogue.tables.map aG).length≤9223372036854775807→(s.dependencies.map aP).length≤9223372036854775807→(s.inclusions.map aS).length≤9223372036854775807→(q.atoms.map bM).length≤9223372036854775807→aEZ s∧Bb (gY s) (aHO s.database q∧Bb (gT s.database q) (aE4 q∧eX m (1:Int) (nN q)∧(eI m (1:Int) (nN q))=(qOk s q m)∧True) ((false)=(qOk s q m)∧True)) ((false)=(qOk s q m)∧True)) (by kernel_rfl) ?_
 intro n0 n1 n2 n3 n4
 simp only[List.length_map] at n0 n1 n2 n3 n4
 have hS:dT s=bR s.database+bX s.catalogue+cC s.dependencies+cU s.inclusions:=rfl
 have hI:=eC s.inclusions
 refine⟨aRX _ (by omega),db (fun g9=>?_) fun g9=>?_⟩
 ·refine⟨aUI s.database _ (by omega),db (fun g15=>?_) fun g15=>?_⟩
  ·refine⟨aR2 _,iW _ _ _,?_,trivial⟩
   ·(rw[qOk,g9,g15];rfl)
  ·refine⟨?_,trivial⟩
   ·(rw[qOk,g9,g15];rfl)
 ·refine⟨?_,trivial⟩
  ·(rw[qOk,g9];rfl)
abbrev vO (s:StoreD)(q:QueryD)(i:Int):AV × List (Nat × Rs):=(.agg [.p none (.str ((gC s q i.toNat).name)),vI ((gC s q i.toNat).arity),vI ((gC s q i.toNat).rowCount),.p none (.sl 220 3 ((gC s q i.toNat).groups.map aD))],[])
abbrev aCq (s:StoreD)(q:QueryD)(i:Int):Prop:=cH Tryz.prog 40 [.agg [.sl 142 3 (s.database.tables.map aT),.int .i64 s.catalogue.version,.sl 88 4 (s.catalogue.tables.map aG),.sl 121 3 (s.dependencies.map aP),.sl 123 4 (s.inclusions.map aS)],.agg [.int .i64 q.variableCount,.sl 125 2 (q.atoms.map bM)],.one (.int .i64 i)] (vO s q i).1 (vO s q i).2
theorem aOh (s:StoreD)(q:QueryD)(i:Int)(hc:dT s≤1048576)(hi:0≤i∧i.toNat<q.atoms.length):aCq s q i:=by
 refine aW bH aO Tryz.func40 (by kernel_rfl) (.elem _ bM q.atoms (fun e15=> .call (.tup [.agg [.p none (.str ((cZ s.catalogue e15.name).1.name)),vI ((cZ s.catalogue e15.name).1.arity),vI ((cZ s.catalogue e15.name).1.rowCount),.p none (.sl 220 3 ((cZ s.catalogue e15.name).1.groups.map aD))],vB ((cZ s.catalogue e15.name).2)]) []<| .fin [])) (p:=(s.database.tables.map aT).length≤9223372036854775807→(s.catalogue.tables.map aG).length≤9223372036854775807→(s.dependencies.map aP).length≤9223372036854775807→(s.inclusions.map aS).length≤9223372036854775807→(q.atoms.map bM).length≤9223372036854775807→0≤i∧Em bM q.atoms ((i).toNat) fun e15=>cH Tryz.prog 76 [.agg [.int .i64 s.catalogue.version,.sl 88 4 (s.catalogue.tables.map aG)],.one (.str e15.name)] (.tup [.agg [.p none (.str ((cZ s.catalogue e15.name).1.name)),vI ((cZ s.catalogue e15.name).1.arity),vI ((cZ s.catalogue e15.name).1.rowCount),.p none (.sl 220 3 ((cZ s.catalogue e15.name).1.groups.map aD))],vB ((cZ s.catalogue e15.name).2)]) []∧((cZ s.catalogue e15.name).1.name)=((gC s q i.toNat).name)∧((cZ s.catalogue e15.name).1.arity)=((gC s q i.toNat).arity)∧((cZ s.catalogue e15.name).1.rowCount)=((gC s q i.toNat).rowCount)∧(cZ s.catalogue e15.name).1.groups.map aD=(gC s q i.toNat).groups.map aD∧True) (by kernel_rfl) ?_
 intro n0 n1 n2 n3 n4
 simp only[List.length_map] at n0 n1 n2 n3 n4
 have hS:dT s=bR s.database+bX s.catalogue+cC s.dependencies+cU s.inclusions:=rfl
 have hI:=eC s.inclusions
 refine⟨by omega,rfl,by omega,fun e15 h15=>?_⟩
 refine⟨jT (aRZ s.catalogue e15.name (by omega)) rfl,?_,?_,?_,?_,trivial⟩<;>((rw[gC,bQ h15]<;>rfl))
theorem aCr {s:StoreD}(q:QueryD)(i:Nat)(hc:dT s≤1048576):bI (gC s q i)≤1048576:=by
 have h1:=aNE s.catalogue (q.atoms.getD i iR).name
 have hS:dT s=bR s.database+bX s.catalogue+cC s.dependencies+cU s.inclusions:=rfl
 unfold gC
 omega
abbrev vP (s:StoreD)(q:QueryD)(m:Int):AV × List (Nat × Rs):=(.own 0,[(0,.arr 192 3 true ((dX s q m).map aE))])
abbrev aCs (s:StoreD)(q:QueryD)(m:Int):Prop:=cH Tryz.prog 99 [.agg [.sl 142 3 (s.database.tables.map aT),.int .i64 s.catalogue.version,.sl 88 4 (s.catalogue.tables.map aG),.sl 121 3 (s.dependencies.map aP),.sl 123 4 (s.inclusions.map aS)],.agg [.int .i64 q.variableCount,.sl 125 2 (q.atoms.map bM)],.one (.int .i64 m)] (vP s q m).1 (vP s q m).2
theorem aOi (s:StoreD)(q:QueryD)(m:Int)(hc:dT s≤1048576)(hcq:hY q≤1048576):aCs s q m:=by
 refine aW bH aO Tryz.func99 (by kernel_rfl) (.call (vB (gY s)) []<| .br (.fin []) (.call (vB (gT s.database q)) []<| .lit<| .lit<| .br (.fin []) (.call (vI (nN q)) []<| .call (vB (eI m (1:Int) (nN q))) []<| .lit<| .lit<| .br (.fin []) (bL (aB5 m)<| .len ((fF m).length)<| .loop (Nat × (List aH)) (Q2 Nat (List aH)) ([7,9,10,11,12,30]++rg 34 30) [1000,3000,5600,6200] (fun yy0=>[(34,vI (yy0.1:Int)),(7,.own 3000)]) (fun yy0=>[(3000,some (.arr 192 3 true (yy0.2.map aE)))]) (fun yy0=>yy0.1≤(fF m).length∧yy0.2=qcL s q ((fF m).take yy0.1)∧aCo s q ((fF m).take yy0.1)=true) (fun yy0=>(fF m).length - yy0.1) (fun yy0=> .br (.len ((fF m).length)<| .elem _ intD (fF m) (fun e37=> .elem _ bM q.atoms (fun e44=> .call (.tup [.agg [.p none (.str ((cZ s.catalogue e44.name).1.name)),vI ((cZ s.catalogue e44.name).1.arity),vI ((cZ s.catalogue e44.name).1.rowCount),.p none (.sl 220 3 ((cZ s.catalogue e44.name).1.groups.map aD))],vB ((cZ s.catalogue e44.name).2)]) []<| .elem _ bM q.atoms (fun e54=>bL (zD ((cZ s.catalogue e44.name).1) e54)<| .len ((lK ((cZ s.catalogue e44.name).1) e54).length)<| .br (.fin []) (.app aH aE yy0.2 (lK ((cZ s.catalogue e44.name).1) e54)<| .back [(3000,6200)]))))) (.fin [(0,3000)])))))) (p:=(s.database.tables.map aT).length≤9223372036854775807→(s.catalogue.tables.map aG).length≤9223372036854775807→(s.dependencies.map aP).length≤9223372036854775807→(s.inclusions.map aS).length≤9223372036854775807→(q.atoms.map bM).length≤9223372036854775807→aEY s∧Nr (gY s) ([]=(dX s q m).map aE∧True) (aHN s.database q∧Nr (gT s.database q) ([]=(dX s q m).map aE∧True) (aE3 q∧(eW m (1:Int) (nN q)∧Nr (eI m (1:Int) (nN q)) ([]=(dX s q m).map aE∧True) (aHP m∧(Lm intD (fF m)∧((∃(k:Nat) (out:List aH),0=(k:Int)∧[]=out.map aE∧k≤(fF m).length∧out=qcL s q ((fF m).take k)∧aCo s q ((fF m).take k)=true)∧ ∀(k:Nat) (out:List aH),(k≤(fF m).length∧out=qcL s q ((fF m).take k)∧aCo s q ((fF m).take k)=true)→Br ((k:Int)<(((fF m).length:Nat):Int)) (0≤(k:Int)∧Lm intD (fF m)∧(k:Int)<(((fF m).length:Nat):Int)∧Em intD (fF m) k fun e37=>0≤e37∧Em bM q.atoms ((e37).toNat) fun e44=>cH Tryz.prog 154 [.agg [.int .i64 s.catalogue.version,.sl 88 4 (s.catalogue.tables.map aG)],.one (.str e44.name)] (.tup [.agg [.p none (.str ((cZ s.catalogue e44.name).1.name)),vI ((cZ s.catalogue e44.name).1.arity),vI ((cZ s.catalogue e44.name).1.rowCount),.p none (.sl 220 3 ((cZ s.catalogue e44.name).1.groups.map aD))],vB ((cZ s.catalogue e44.name).2)]) []∧0≤e37∧Em bM q.atoms ((e37).toNat) fun e54=>aE8 ((cZ s.catalogue e44.name).1) e54∧Lm aE (lK ((cZ s.catalogue e44.name).1) e54)∧Br ((((lK ((cZ s.catalogue e44.name).1) e54).length:Nat):Int)=0) ([]=(dX s q m).map aE∧True) (out.map aE=out.map aE∧(lK ((cZ s.catalogue e44.name).1) e54).map aE=(lK ((cZ s.catalogue e44.name).1) e54).map aE∧(∀x,bW (aE x)=true)∧(out.length+(lK ((cZ s.catalogue e44.name).1) e54).length)*24≤140737488355328∧bO ((k:Int)+1)∧ ∃(k' :Nat) (out' :List aH),((k:Int)+1)=(k' :Int)∧(out++(lK ((cZ s.catalogue e44.name).1) e54)).map aE=out'.map aE∧(k' ≤(fF m).length∧out' =qcL s q ((fF m).take k')∧aCo s q ((fF m).take k')=true)∧(fF m).length - k' <(fF m).length - k)) (out.map aE=(dX s q m).map aE∧True)))))))) (by kernel_rfl) ?_
 intro n0 n1 n2 n3 n4
 simp only[List.length_map] at n0 n1 n2 n3 n4
 have hS:dT s=bR s.database+bX s.catalogue+cC s.dependencies+cU s.inclusions:=rfl
 have hI:=eC s.inclusions
 have hQ:hY q=jV q.atoms:=rfl
 refine⟨aRW _ (by omega),dm (fun g16=>?_) fun g16=>?_⟩
 ·have hbad:qOk s q m=false:=by (simp[qOk,g16];done)
  refine⟨?_,trivial⟩
  ·(rw[aCp hbad]<;>rfl)
 ·refine⟨aUH s.database _ (by omega),dm (fun g23=>?_) fun g23=>?_⟩
  ·have hbad:qOk s q m=false:=by (simp[qOk,g23];done)
   refine⟨?_,trivial⟩
   ·(rw[aCp hbad]<;>rfl)
  ·refine⟨aR1 _,iV _ _ _,dm (fun c0=>?_) fun c0=>?_⟩
   ·have hbad:qOk s q m=false:=by (simp[qOk,c0];done)
    refine⟨?_,trivial⟩
    ·(rw[aCp hbad]<;>rfl)
   ·have hq:qOk s q m=true:=by (rw[qOk,g16,g23,c0];rfl)
    obtain⟨hq1,hq2,hq3,hm1,hm2,hm3,hm4,hm5⟩:=aDc hq
    have hml:=aJy m
    refine⟨aUJ m,List.length_map _,⟨0,([]:List aH),rfl,rfl,Nat.zero_le _,rfl,rfl⟩,fun k out ⟨hk,ho,ha⟩=>?_⟩
    have hlen:out.length≤28:=by rw[ho];have z1:=aFW s q ((fF m).take k);have z2:=List.length_take_le k (fF m);omega
    refine dd (fun c1=>?_) fun c1=>?_
    ·refine⟨by omega,List.length_map _,by omega,rfl,by omega,fun e37 h37=>?_⟩
     have he:=aUN hq (List.mem_of_getElem? h37)
     have hem:=List.mem_of_getElem? h37
     refine⟨by omega,rfl,by omega,fun e44 h44=>?_⟩
     have hst:(cZ s.catalogue e44.name).1=gC s q e37.toNat:=by rw[gC,bQ h44]
     have hcs:=aCr q e37.toNat hc
     rw[←hst] at hcs
     have hcA:=aDV h44
     refine⟨jT (aRY s.catalogue e44.name (by omega)) rfl,by omega,rfl,by omega,fun e54 h54=>?_⟩
     obtain rfl:=(aZ h44 h54).symm
     have hE:lK (cZ s.catalogue e44.name).1 e44=qcA s q e37:=by rw[qcA,hst,bQ h44]
     have hzl:=aHI (cZ s.catalogue e44.name).1 e44
     refine⟨aR6 ((cZ s.catalogue e44.name).1) _ (by omega) (by omega),List.length_map _,dd (fun c2=>?_) fun c2=>?_⟩
     ·refine⟨?_,trivial⟩
      ·(rw[aKB hem (by rw[←hE];omega)]<;>rfl)
     ·refine⟨rfl,rfl,fun _=>rfl,by omega,?_⟩
      refine⟨⟨by omega,by omega⟩,?_⟩
      exact⟨k+1,_,rfl,rfl,⟨by omega,by rw[ho,bU h37,aNH,hE],by rw[bU h37];exact aKC ha (by rw[←hE];exact c2)⟩,by omega⟩
    ·refine⟨?_,trivial⟩
     ·(rw[aKA hq (by rw[List.take_of_length_le (by omega)] at ha;exact ha),ho,List.take_of_length_le (by omega)])
abbrev vQ (s:StoreD)(q:QueryD)(m:Int):AV × List (Nat × Rs):=(.own 0,[(0,.arr 192 3 true ((dX s q m).map aE))])
abbrev aCt (s:StoreD)(q:QueryD)(m:Int):Prop:=cH Tryz.prog 90 [.agg [.sl 142 3 (s.database.tables.map aT),.int .i64 s.catalogue.version,.sl 88 4 (s.catalogue.tables.map aG),.sl 121 3 (s.dependencies.map aP),.sl 123 4 (s.inclusions.map aS)],.agg [.int .i64 q.variableCount,.sl 125 2 (q.atoms.map bM)],.one (.int .i64 m)] (vQ s q m).1 (vQ s q m).2
theorem aOj (s:StoreD)(q:QueryD)(m:Int)(hc:dT s≤1048576)(hcq:hY q≤1048576):aCt s q m:=by
 refine aW bH aO Tryz.func90 (by kernel_rfl) (.call (vB (qOk s q m)) []<| .br (.fin [(0,1000)]) (.loop (Nat × (List aH)) (Q2 Nat (List aH)) ([7,8,9,10]++rg 17 25++[43,44,45]) [1000,3800,4500] (fun yy0=>[(8,vI (yy0.1:Int)),(7,.own 1000)]) (fun yy0=>[(1000,some (.arr 192 3 true (yy0.2.map aE)))]) (fun yy0=>yy0.1≤q.atoms.length∧yy0.2=qcL s q (gS (fP m) yy0.1)∧aCo s q (gS (fP m) yy0.1)=true) (fun yy0=>q.atoms.length - yy0.1) (fun yy0=> .len q.atoms.length<| .br (.br (.back [(1000,1000)]) (bL (vO s q (yy0.1:Int))<| .elem _ bM q.atoms (fun e36=>bL (zE (gC s q (yy0.1:Int).toNat) e36)<| .len ((lK (gC s q (yy0.1:Int).toNat) e36).length)<| .br (.fin [(0,4200)]) (.app aH aE yy0.2 (lK (gC s q (yy0.1:Int).toNat) e36)<| .back [(1000,4500)])))) (.fin [(0,1000)])))) (p:=(s.database.tables.map aT).length≤9223372036854775807→(s.catalogue.tables.map aG).length≤9223372036854775807→(s.dependencies.map aP).length≤9223372036854775807→(s.inclusions.map aS).length≤9223372036854775807→(q.atoms.map bM).length≤9223372036854775807→aHT s q m∧Nr (qOk s q m) ([]=(dX s q m).map aE∧True) ((∃(k:Nat) (out:List aH),0=(k:Int)∧[]=out.map aE∧k≤q.atoms.length∧out=qcL s q (gS (fP m) k)∧aCo s q (gS (fP m) k)=true)∧ ∀(k:Nat) (out:List aH),(k≤q.atoms.length∧out=qcL s q (gS (fP m) k)∧aCo s q (gS (fP m) k)=true)→Lm bM q.atoms∧Br ((k:Int)<(q.atoms.length:Int)) ((0≤(k:Int)∧(k:Int)≤64)∧Br ((cI .and .i64 (m/2^k) (1:Int))=0) (bO ((k:Int)+1)∧ ∃(k' :Nat) (out' :List aH),((k:Int)+1)=(k' :Int)∧out.map aE=out'.map aE∧(k' ≤q.atoms.length∧out' =qcL s q (gS (fP m) k')∧aCo s q (gS (fP m) k')=true)∧q.atoms.length - k' <q.atoms.length - k) (aCq s q (k:Int)∧0≤(k:Int)∧Em bM q.atoms k fun e36=>aE9 (gC s q (k:Int).toNat) e36∧Lm aE (lK (gC s q (k:Int).toNat) e36)∧Br ((((lK (gC s q (k:Int).toNat) e36).length:Nat):Int)=0) ([]=(dX s q m).map aE∧True) (out.map aE=out.map aE∧(lK (gC s q (k:Int).toNat) e36).map aE=(lK (gC s q (k:Int).toNat) e36).map aE∧(∀x,bW (aE x)=true)∧(out.length+(lK (gC s q (k:Int).toNat) e36).length)*24≤140737488355328∧bO ((k:Int)+1)∧ ∃(k' :Nat) (out' :List aH),((k:Int)+1)=(k' :Int)∧(out++(lK (gC s q (k:Int).toNat) e36)).map aE=out'.map aE∧(k' ≤q.atoms.length∧out' =qcL s q (gS (fP m) k')∧aCo s q (gS (fP m) k')=true)∧q.atoms.length - k' <q.atoms.length - k))) (out.map aE=(dX s q m).map aE∧True))) (by kernel_rfl) ?_
 intro n0 n1 n2 n3 n4
 simp only[List.length_map] at n0 n1 n2 n3 n4
 have hS:dT s=bR s.database+bX s.catalogue+cC s.dependencies+cU s.inclusions:=rfl
 have hI:=eC s.inclusions
 have hQ:hY q=jV q.atoms:=rfl
 refine⟨aUO s q m (by omega),dm (fun c0=>?_) fun c0=>?_⟩
 ·have hbad:qOk s q m=false:=by simpa using c0
  refine⟨?_,trivial⟩
  ·(rw[aCp hbad]<;>rfl)
 ·have hq:qOk s q m=true:=by simpa using c0
  obtain⟨hq1,hq2,hq3,hm1,hm2,hm3,hm4,hm5⟩:=aDc hq
  refine⟨⟨0,([]:List aH),rfl,rfl,Nat.zero_le _,rfl,rfl⟩,fun k out ⟨hk,ho,ha⟩=>?_⟩
  have hlen:out.length≤28:=by rw[ho];have z1:=aFW s q (gS (fP m) k);have z2:=yR (fP m) k;omega
  refine⟨List.length_map _,dd (fun c1=>?_) fun c1=>?_⟩
  ·refine⟨⟨by omega,by omega⟩,dd (fun c2=>?_) fun c2=>?_⟩
   ·refine⟨⟨by omega,by omega⟩,?_⟩
    exact⟨k+1,_,rfl,rfl,⟨by omega,by (rw[ho,aA5 (aD7 (by omega))];done),by (rw[aA5 (aD7 (by omega))];exact ha)⟩,by omega⟩
   ·have hb:fP m k=true:=by have z:=aTr (m:=m) (v:=k) ⟨by omega,by omega⟩ (by omega);rw[decide_eq_false c2] at z;simpa using z
    have hcs:=aCr q (k:Int).toNat hc
    refine⟨aOh s q (k:Int) (by omega) (by exact⟨by omega,by omega⟩),by omega,rfl,by omega,fun e36 h36=>?_⟩
    have hE:lK (gC s q (k:Int).toNat) e36=qcA s q (k:Int):=by rw[qcA,Int.toNat_natCast,bQ h36]
    have hzl:=aHI (gC s q (k:Int).toNat) e36
    have hcA:=aDV h36
    refine⟨aR7 (gC s q (k:Int).toNat) _ (by omega) (by omega),List.length_map _,dd (fun c3=>?_) fun c3=>?_⟩
    ·have hem:(k:Int)∈fF m:=by rw[aLN hq];exact aMs.2 ⟨by omega,by omega,by simpa using hb⟩
     refine⟨?_,trivial⟩
     ·(rw[aKB hem (by rw[←hE];omega)]<;>rfl)
    ·refine⟨rfl,rfl,fun _=>rfl,by omega,?_⟩
     refine⟨⟨by omega,by omega⟩,?_⟩
     exact⟨k+1,_,rfl,rfl,⟨by omega,by (rw[ho,yQ hb,aNH,hE]),by (rw[yQ hb];exact aKC ha (by rw[←hE];exact c3))⟩,by omega⟩
  ·have hkl:q.atoms.length=k:=by omega
   rw[←hkl,←aLN hq] at ho ha
   refine⟨?_,trivial⟩
   ·(rw[aKA hq ha,ho])
def dA (n d:Int):Bool:=eI d 1 2147483647&&eI n (-2147483647) 2147483647&&decide (Int.gcd n d=1)
theorem aHU {n d:Int}(h:dA n d=true):1≤d∧d≤2147483647∧ -2147483647≤n∧n≤2147483647∧Int.gcd n d=1:=by
 simp only[dA,Bool.and_eq_true,decide_eq_true_eq] at h
 obtain⟨⟨h1,h2⟩,h3⟩:=h
 have:=eG h1
 have:=eG h2
 exact⟨by omega,by omega,by omega,by omega,h3⟩
def bS (n d:Int):Int × Int × Bool:=
 if d=0 then (0,0,false) else
 let n1:=if d<0 then -n else n
 let d1:=if d<0 then -d else d
 let g:Int:=Int.gcd n1 d1
 if dA (n1.tdiv g) (d1.tdiv g)=true then (n1.tdiv g,d1.tdiv g,true) else (0,0,false)
def aLO (a b c d:Int):Int × Int × Bool:=if dA a b=true∧dA c d=true then bS (a*d+c*b) (b*d) else (0,0,false)
def aLP (a b c d:Int):Int × Int × Bool:=if dA a b=true∧dA c d=true then bS (a*d - c*b) (b*d) else (0,0,false)
def aR8 (a b c d:Int):Int × Int × Bool:=if dA a b=true∧dA c d=true then bS (a*c) (b*d) else (0,0,false)
def aIh (a b c d:Int):Int × Int × Bool:=if dA a b=true∧dA c d=true then bS (a*d) (b*c) else (0,0,false)
def aUP (a b c d:Int):Int:=if dA a b=true∧dA c d=true then (if a*d<c*b then -1 else if c*b<a*d then 1 else 0) else 0
theorem aNI (x y:Int):Int.gcd y (x.tmod y)=Int.gcd x y:=by
 rw[Int.gcd_comm x y]
 unfold Int.gcd
 rw[Int.natAbs_tmod,Nat.gcd_comm y.natAbs (x.natAbs%y.natAbs),←Nat.gcd_rec]
theorem aWQ (x:Int):(Int.gcd x 0:Int)=(if x< -x then -x else x):=by
 rw[Int.gcd_zero_right]
 split<;>omega
theorem aCu {x y:Int}(h:y≠0):(x.tmod y).natAbs<y.natAbs:=by
 rw[Int.natAbs_tmod]
 exact Nat.mod_lt _ (by omega)
theorem aHV {x:Int}{n:Nat}(h:x.natAbs<n)(hn:n≤9223372036854775807): -9223372036854775807≤x∧x≤9223372036854775807:=by omega
theorem aUQ (n g:Int)(hn: -9223372036854775807≤n∧n≤9223372036854775807): -9223372036854775807≤n.tdiv g∧n.tdiv g≤9223372036854775807:=by
 have h1:(n.tdiv g).natAbs=n.natAbs/g.natAbs:=Int.natAbs_tdiv n g
 have h2:n.natAbs/g.natAbs≤n.natAbs:=Nat.div_le_self _ _
 omega
theorem mA {n d:Int}(h:d≠0):1≤(Int.gcd n d:Int):=by
 have:0<Int.gcd n d:=Int.gcd_pos_of_ne_zero_right n h
 omega
theorem mH (n:Int):bS n 0=(0,0,false):=by simp[bS]
theorem aR9 {n d g:Int}(h:0<d)(hg:g=Int.gcd n d):bS n d=if dA (n.tdiv g) (d.tdiv g)=true then (n.tdiv g,d.tdiv g,true) else (0,0,false):=by
 subst hg
 unfold bS
 rw[if_neg (by omega)]
 simp only[if_neg (show ¬d<0 by omega)]
theorem aRa {n d g:Int}(h:d<0)(hg:g=Int.gcd (-n) (-d)):bS n d=if dA ((-n).tdiv g) ((-d).tdiv g)=true then ((-n).tdiv g,(-d).tdiv g,true) else (0,0,false):=by
 subst hg
 unfold bS
 rw[if_neg (by omega)]
 simp only[if_pos h]
theorem eY {x y:Int}(hx: -2147483647≤x∧x≤2147483647)(hy: -2147483647≤y∧y≤2147483647): -4611686014132420609≤x*y∧x*y≤4611686014132420609:=by
 have h1:(x*y).natAbs=x.natAbs*y.natAbs:=Int.natAbs_mul x y
 have h2:x.natAbs*y.natAbs≤2147483647*2147483647:=Nat.mul_le_mul (by omega) (by omega)
 omega
theorem aFX {a b c d:Int}(h:dA a b=false∨dA c d=false):aLO a b c d=(0,0,false):=by rcases h with h | h<;>simp[aLO,h]
theorem aHW {a b c d:Int}(h:dA a b=true)(h' :dA c d=true):aLO a b c d=bS (a*d+c*b) (b*d):=by simp[aLO,h,h']
theorem aPu {a b c d:Int}(h:dA a b=false∨dA c d=false):aLP a b c d=(0,0,false):=by rcases h with h | h<;>simp[aLP,h]
theorem aNJ {a b c d:Int}(h:dA a b=true)(h' :dA c d=true):aLP a b c d=bS (a*d - c*b) (b*d):=by simp[aLP,h,h']
theorem aFY {a b c d:Int}(h:dA a b=false∨dA c d=false):aR8 a b c d=(0,0,false):=by rcases h with h | h<;>simp[aR8,h]
theorem zF {a b c d:Int}(h:dA a b=true)(h' :dA c d=true):aR8 a b c d=bS (a*c) (b*d):=by simp[aR8,h,h']
theorem aFZ {a b c d:Int}(h:dA a b=false∨dA c d=false):aIh a b c d=(0,0,false):=by rcases h with h | h<;>simp[aIh,h]
theorem zG {a b c d:Int}(h:dA a b=true)(h' :dA c d=true):aIh a b c d=bS (a*d) (b*c):=by simp[aIh,h,h']
theorem aRb {a b d:Int}:aIh a b 0 d=(0,0,false):=by unfold aIh;split<;>simp[bS]
theorem aF0 {a b c d:Int}(h:dA a b=false∨dA c d=false):aUP a b c d=0:=by rcases h with h | h<;>simp[aUP,h]
theorem tX {a b c d:Int}(h:dA a b=true)(h' :dA c d=true):aUP a b c d=if a*d<c*b then -1 else if c*b<a*d then 1 else 0:=by simp[aUP,h,h']
def bC (r:aB):Bool:=dA r.num r.den
def iO (q:Int × Int × Bool):aB × Bool:=(⟨q.1,q.2.1⟩,q.2.2)
def fU (a b:aB):aB × Bool:=iO (aLO a.num a.den b.num b.den)
def nS (a b:aB):aB × Bool:=iO (aLP a.num a.den b.num b.den)
def dS (a b:aB):aB × Bool:=iO (aR8 a.num a.den b.num b.den)
def aY (a b:aB):aB × Bool:=iO (aIh a.num a.den b.num b.den)
def fB (a b:aB):Int:=aUP a.num a.den b.num b.den
theorem cS {r:aB}(h:bC r=true):1≤r.den∧r.den≤2147483647∧ -2147483647≤r.num∧r.num≤2147483647∧Int.gcd r.num r.den=1:=aHU h
theorem fV {n d:Int}:Int.gcd (n.natAbs:Int) d=Int.gcd n d:=by simp[Int.gcd]
theorem oM {n d:Int}:dA n d=(decide (1≤d∧d≤2147483647)&&(decide (-2147483647≤n∧n≤2147483647)&&decide (((Int.gcd n d:Nat):Int)=1))):=by
 have e:decide (((Int.gcd n d:Nat):Int)=1)=decide (Int.gcd n d=1):=by congr 1;simp;omega
 rw[e]
 simp only[dA,Bool.and_assoc]
 congr 1
 ·simp[eI,Bool.decide_and]
 ·congr 1
  simp[eI,Bool.decide_and]
theorem zH {k:Int}(hk:1≤k): ∀i:Nat,1≤k^i
 | 0=>by simp
 | i+1=>by
   rw[Int.pow_succ]
   have h1:=zH hk i
   have h2:1*1≤k^i*k:=Int.mul_le_mul h1 hk (by omega) (by omega)
   omega
theorem aKE {k:Int}(hk:1≤k){i j:Nat}(h:i≤j):k^i≤k^j:=by
 obtain⟨t,rfl⟩:=Nat.exists_eq_add_of_le h
 rw[Int.pow_add]
 have h1:=zH hk i
 have h2:=zH hk t
 have h3:k^i*1≤k^i*k^t:=Int.mul_le_mul_of_nonneg_left h2 (by omega)
 omega
theorem aY5 {n:Nat}(h:n≤12):(2:Int)^n≤4096:=by
 have:=aKE (k:=2) (by omega) h
 exact Int.le_trans this (by decide)
theorem fM {i:Nat}(h:i≤12):bO ((1:Int)*2^i):=by
 have h1:=aY5 h
 have h2:=zH (k:=2) (by omega) i
 exact⟨by omega,by omega⟩
abbrev jP (n:Int)(a:Int)(c:Int):Prop:=cH Tryz.prog 83 [.one (.int .i64 n),.one (.int .i64 a),.one (.int .i64 c)] (vB (decide (a≤n∧n≤c))) []
theorem nO (n a c:Int):jP n a c:=by
 refine aW bH aO Tryz.func83 (by kernel_rfl) (.br (.fin []) (.fin [])) (p:=Br (a≤n) (((decide (n≤c))=(decide (a≤n∧n≤c)))∧True) (((false)=(decide (a≤n∧n≤c)))∧True)) (by kernel_rfl) ?_
 refine dd (fun g10=>?_) fun g10=>?_
 ·refine⟨?_,trivial⟩
  ·(simp[*];done)
 ·refine⟨?_,trivial⟩
  ·(simp[*];done)
abbrev fC (n:Int)(a:Int)(c:Int):Prop:=cH Tryz.prog 74 [.one (.int .i64 n),.one (.int .i64 a),.one (.int .i64 c)] (vB (decide (a≤n∧n≤c))) []
theorem iU (n a c:Int):fC n a c:=by
 refine aW bH aO Tryz.func74 (by kernel_rfl) (.br (.fin []) (.fin [])) (p:=Br (a≤n) (((decide (n≤c))=(decide (a≤n∧n≤c)))∧True) (((false)=(decide (a≤n∧n≤c)))∧True)) (by kernel_rfl) ?_
 refine dd (fun g10=>?_) fun g10=>?_
 ·refine⟨?_,trivial⟩
  ·(simp[*];done)
 ·refine⟨?_,trivial⟩
  ·(simp[*];done)
abbrev oN (a:Int)(c:Int):Prop:=cH Tryz.prog 139 [.one (.int .i64 a),.one (.int .i64 c)] (vI ((Int.gcd a c:Nat):Int)) []
theorem zI (a c:Int)(ha: -9223372036854775807≤a∧a≤9223372036854775807)(hc: -9223372036854775807≤c∧c≤9223372036854775807):oN a c:=by
 refine aW bH aO Tryz.func139 (by kernel_rfl) (.loop (Int × Int) (Q2 Int Int) [0,1,5,6,7,8,9,10] [] (fun yy0=>[(0,vI yy0.1),(1,vI yy0.2)]) (fun yy0=>[]) (fun yy0=>(-9223372036854775807≤yy0.1∧yy0.1≤9223372036854775807)∧(-9223372036854775807≤yy0.2∧yy0.2≤9223372036854775807)∧Int.gcd yy0.1 yy0.2=Int.gcd a c) (fun yy0=>yy0.2.natAbs) (fun yy0=> .br (.back []) (.fin []))) (p:=(∃(x:Int) (y:Int),a=x∧c=y∧(-9223372036854775807≤x∧x≤9223372036854775807)∧(-9223372036854775807≤y∧y≤9223372036854775807)∧Int.gcd x y=Int.gcd a c)∧ ∀(x:Int) (y:Int),((-9223372036854775807≤x∧x≤9223372036854775807)∧(-9223372036854775807≤y∧y≤9223372036854775807)∧Int.gcd x y=Int.gcd a c)→Nb (y=0) (y≠0∧ ∃(x' :Int) (y' :Int),y=x' ∧(Int.tmod x y)=y' ∧((-9223372036854775807≤x' ∧x' ≤9223372036854775807)∧(-9223372036854775807≤y' ∧y' ≤9223372036854775807)∧Int.gcd x' y' =Int.gcd a c)∧y'.natAbs<y.natAbs) (bO (-x)∧(if x<(-x) then (-x) else x)=((Int.gcd a c:Nat):Int)∧True)) (by kernel_rfl) ?_
 refine⟨⟨a,c,rfl,rfl,ha,hc,rfl⟩,fun x y ⟨hx,hy,hg⟩=>?_⟩
 refine dn (fun c0=>?_) fun c0=>?_
 ·refine⟨by omega,?_⟩
  exact⟨y,Int.tmod x y,rfl,rfl,⟨hy,aHV (aCu c0) (by omega),by rw[aNI];exact hg⟩,aCu c0⟩
 ·refine⟨⟨by omega,by omega⟩,?_,trivial⟩
  ·subst c0;rw[←hg,aWQ]
abbrev vR (a:Int)(c:Int):Prop:=cH Tryz.prog 129 [.one (.int .i64 a),.one (.int .i64 c)] (vI ((Int.gcd a c:Nat):Int)) []
theorem aHX (a c:Int)(ha:0≤a∧a≤9223372036854775807)(hc:0≤c∧c≤9223372036854775807):vR a c:=by
 refine aW bH aO Tryz.func129 (by kernel_rfl) (.loop (Int × Int) (Q2 Int Int) ([0,1]++rg 5 8) [] (fun yy0=>[(0,vI yy0.1),(1,vI yy0.2)]) (fun yy0=>[]) (fun yy0=>(0≤yy0.1∧yy0.1≤9223372036854775807)∧(0≤yy0.2∧yy0.2≤9223372036854775807)∧Int.gcd yy0.1 yy0.2=Int.gcd a c) (fun yy0=>yy0.2.natAbs) (fun yy0=> .br (.back []) (.fin []))) (p:=(∃(x:Int) (y:Int),a=x∧c=y∧(0≤x∧x≤9223372036854775807)∧(0≤y∧y≤9223372036854775807)∧Int.gcd x y=Int.gcd a c)∧ ∀(x:Int) (y:Int),((0≤x∧x≤9223372036854775807)∧(0≤y∧y≤9223372036854775807)∧Int.gcd x y=Int.gcd a c)→Nb (y=0) (y≠0∧ ∃(x' :Int) (y' :Int),y=x' ∧(Int.tmod x y)=y' ∧((0≤x' ∧x' ≤9223372036854775807)∧(0≤y' ∧y' ≤9223372036854775807)∧Int.gcd x' y' =Int.gcd a c)∧y'.natAbs<y.natAbs) (x=((Int.gcd a c:Nat):Int)∧True)) (by kernel_rfl) ?_
 refine⟨⟨a,c,rfl,rfl,ha,hc,rfl⟩,fun x y ⟨hx,hy,hg⟩=>?_⟩
 refine dn (fun c0=>?_) fun c0=>?_
 ·refine⟨by omega,?_⟩
  exact⟨y,Int.tmod x y,rfl,rfl,⟨hy,⟨Int.tmod_nonneg _ hx.1,(aHV (aCu c0) (by omega)).2⟩,by rw[aNI];exact hg⟩,aCu c0⟩
 ·refine⟨?_,trivial⟩
  ·subst c0;rw[←hg,Int.gcd_zero_right];omega
abbrev vS (n:Int):Prop:=cH Tryz.prog 130 [.one (.int .i64 n)] (vI (n.natAbs:Int)) []
theorem aHY (n:Int)(hn: -9223372036854775807≤n∧n≤9223372036854775807):vS n:=by
 refine aW bH aO Tryz.func130 (by kernel_rfl) (.br (.fin []) (.fin [])) (p:=Br (n<0) (bO (-n)∧(-n)=(n.natAbs:Int)∧True) (n=(n.natAbs:Int)∧True)) (by kernel_rfl) ?_
 refine dd (fun c0=>?_) fun c0=>?_
 ·refine⟨⟨by omega,by omega⟩,?_,trivial⟩
  ·omega
 ·refine⟨?_,trivial⟩
  ·omega
abbrev gL (r:aB):Prop:=cH Tryz.prog 87 [.agg [.int .i64 r.num,.int .i64 r.den]] (vB (bC r)) []
theorem kS (r:aB):gL r:=by
 refine aW bH aO Tryz.func87 (by kernel_rfl) (.call (vB (decide (1≤r.den∧r.den≤2147483647))) []<| .br (.call (vB (decide ((-2147483647:Int)≤r.num∧r.num≤2147483647))) []<| .lit<| .br (.call (vI ((Int.gcd r.num r.den:Nat):Int)) []<| .fin []) (.fin [])) (.fin [])) (p:=jP r.den (1:Int) (2147483647:Int)∧Br (1≤r.den∧r.den≤2147483647) (jP r.num (-2147483647:Int) (2147483647:Int)∧Br ((-2147483647:Int)≤r.num∧r.num≤2147483647) (oN r.num r.den∧(decide (((Int.gcd r.num r.den:Nat):Int)=1))=(bC r)∧True) ((false)=(bC r)∧True)) ((false)=(bC r)∧True)) (by kernel_rfl) ?_
 refine⟨nO _ _ _,dd (fun g6=>?_) fun g6=>?_⟩
 ·refine⟨nO _ _ _,dd (fun g11=>?_) fun g11=>?_⟩
  ·refine⟨zI _ _ (by omega) (by omega),?_,trivial⟩
   ·(try rw[fV]);rw[bC,oM];simp[*]
  ·refine⟨?_,trivial⟩
   ·(try rw[fV]);rw[bC,oM];simp[*]
 ·refine⟨?_,trivial⟩
  ·(try rw[fV]);rw[bC,oM];simp[*]
abbrev fK (r:aB):Prop:=cH Tryz.prog 77 [.agg [.int .i64 r.num,.int .i64 r.den]] (vB (bC r)) []
theorem jH (r:aB):fK r:=by
 refine aW bH aO Tryz.func77 (by kernel_rfl) (.call (vB (decide (1≤r.den∧r.den≤2147483647))) []<| .br (.call (vB (decide ((-2147483647:Int)≤r.num∧r.num≤2147483647))) []<| .lit<| .br (.call (vI (r.num.natAbs:Int)) []<| .call (vI ((Int.gcd (r.num.natAbs:Int) r.den:Nat):Int)) []<| .fin []) (.fin [])) (.fin [])) (p:=fC r.den (1:Int) (2147483647:Int)∧Br (1≤r.den∧r.den≤2147483647) (fC r.num (-2147483647:Int) (2147483647:Int)∧Br ((-2147483647:Int)≤r.num∧r.num≤2147483647) (vS r.num∧vR (r.num.natAbs:Int) r.den∧(decide (((Int.gcd (r.num.natAbs:Int) r.den:Nat):Int)=1))=(bC r)∧True) ((false)=(bC r)∧True)) ((false)=(bC r)∧True)) (by kernel_rfl) ?_
 refine⟨iU _ _ _,dd (fun g6=>?_) fun g6=>?_⟩
 ·refine⟨iU _ _ _,dd (fun g11=>?_) fun g11=>?_⟩
  ·refine⟨aHY _ (by omega),aHX _ _ (by omega) (by omega),?_,trivial⟩
   ·(try rw[fV]);rw[bC,oM];simp[*]
  ·refine⟨?_,trivial⟩
   ·(try rw[fV]);rw[bC,oM];simp[*]
 ·refine⟨?_,trivial⟩
  ·(try rw[fV]);rw[bC,oM];simp[*]
def jS (m:Int)(l:List Int):Nat→Int
 | 0=>0
 | k+1=>if (k<4∧0≤l.getD k 0∧l.getD k 0≤3)∧cI .and .i64 (m/2^(l.getD k 0).toNat) 1=1 then cI .or .i64 (jS m l k) (1*2^k) else jS m l k
def gF (m:Int)(l:List Int):Int:=jS m l l.length
theorem aKF {m:Int}{l:List Int}{k:Nat}{x:Int}(hx:l[k]? =some x)(h:(k<4∧0≤x∧x≤3)∧cI .and .i64 (m/2^x.toNat) 1=1):jS m l (k+1)=cI .or .i64 (jS m l k) (1*2^k):=by
 have e:l.getD k 0=x:=by simp[List.getD_eq_getElem?_getD,hx]
 rw[jS,e,if_pos h]
theorem zJ {m:Int}{l:List Int}{k:Nat}{x:Int}(hx:l[k]? =some x)(h: ¬((k<4∧0≤x∧x≤3)∧cI .and .i64 (m/2^x.toNat) 1=1)):jS m l (k+1)=jS m l k:=by
 have e:l.getD k 0=x:=by simp[List.getD_eq_getElem?_getD,hx]
 rw[jS,e,if_neg h]
theorem aOk {m:Int}{l:List Int}{k:Nat}(h:4≤k):jS m l k=jS m l 4:=by
 induction k with
 | zero=>omega
 | succ k ih=>
   by_cases h4:k+1=4
   ·rw[h4]
   ·rw[jS,if_neg (by omega),ih (by omega)]
def lY (l:List Int)(c:aH):aH:=⟨gF c.src l,gF c.dst l,c.bits⟩
abbrev aDd (m:Int)(l:List Int):Prop:=cH Tryz.prog 160 [.one (.int .i64 m),.ref [.sl 3 1 (l.map intD)]] (vI (gF m l)) []
theorem aPv (m:Int)(l:List Int):aDd m l:=by
 refine aW bH aO Tryz.func160 (by kernel_rfl) (.len l.length<| .loop (Nat × Int) (Q2 Nat Int) ([4,5,6]++rg 9 23) [] (fun yy0=>[(4,vI yy0.2),(9,vI (yy0.1:Int))]) (fun yy0=>[]) (fun yy0=>yy0.1≤l.length∧yy0.2=jS m l yy0.1) (fun yy0=>l.length - yy0.1) (fun yy0=> .br (.elem _ intD l (fun e12=> .br (.call (vB (decide (0≤e12∧e12≤3))) []<| .lit<| .br (.lit<| .lit<| .lit<| .lit<| .lit<| .br (.back []) (.back [])) (.back [])) (.back []))) (.fin []))) (p:=(l.map intD).length≤9223372036854775807→Lm intD l∧((∃(k:Nat) (o:Int),0=o∧0=(k:Int)∧k≤l.length∧o=jS m l k)∧ ∀(k:Nat) (o:Int),(k≤l.length∧o=jS m l k)→Br ((k:Int)<(l.length:Int)) (0≤(k:Int)∧Em intD l k fun e12=>Br ((k:Int)<4) (jP e12 (0:Int) (3:Int)∧Br (0≤e12∧e12≤3) ((0≤e12∧e12≤64)∧Br ((cI .and .i64 (m/2^(Int.toNat e12)) (1:Int))=1) ((0≤(k:Int)∧(k:Int)≤64)∧bO ((1:Int)*2^k)∧bO ((k:Int)+1)∧ ∃(k' :Nat) (o' :Int),(cI .or .i64 o ((1:Int)*2^k))=o' ∧((k:Int)+1)=(k' :Int)∧(k' ≤l.length∧o' =jS m l k')∧l.length - k' <l.length - k) (bO ((k:Int)+1)∧ ∃(k' :Nat) (o' :Int),o=o' ∧((k:Int)+1)=(k' :Int)∧(k' ≤l.length∧o' =jS m l k')∧l.length - k' <l.length - k)) (bO ((k:Int)+1)∧ ∃(k' :Nat) (o' :Int),o=o' ∧((k:Int)+1)=(k' :Int)∧(k' ≤l.length∧o' =jS m l k')∧l.length - k' <l.length - k)) (bO ((k:Int)+1)∧ ∃(k' :Nat) (o' :Int),o=o' ∧((k:Int)+1)=(k' :Int)∧(k' ≤l.length∧o' =jS m l k')∧l.length - k' <l.length - k)) (o=(gF m l)∧True))) (by kernel_rfl) ?_
 intro n0
 simp only[List.length_map] at n0
 refine⟨List.length_map _,⟨0,(0:Int),rfl,rfl,Nat.zero_le _,rfl⟩,fun k o ⟨hk,hv⟩=>?_⟩
 refine dd (fun c0=>?_) fun c0=>?_
 ·refine⟨by omega,rfl,by omega,fun e12 h12=>?_⟩
  have hk2:=h12
  refine dd (fun g16=>?_) fun g16=>?_
  ·refine⟨nO _ _ _,dd (fun g20=>?_) fun g20=>?_⟩
   ·refine⟨⟨by omega,by omega⟩,dd (fun c1=>?_) fun c1=>?_⟩
    ·refine⟨⟨by omega,by omega⟩,by exact fM (by omega),by exact⟨by omega,by omega⟩,?_⟩
     exact⟨k+1,cI .or .i64 o ((1:Int)*2^k),rfl,rfl,⟨by omega,by (rw[aKF hk2 (by refine⟨⟨by omega,by omega,by omega⟩,by assumption⟩),hv];done)⟩,by omega⟩
    ·refine⟨by exact⟨by omega,by omega⟩,?_⟩
     exact⟨k+1,o,rfl,rfl,⟨by omega,by (rw[zJ hk2 (by rintro⟨⟨_,_,_⟩,_⟩;omega),hv];done)⟩,by omega⟩
   ·refine⟨by exact⟨by omega,by omega⟩,?_⟩
    exact⟨k+1,o,rfl,rfl,⟨by omega,by (rw[zJ hk2 (by rintro⟨⟨_,_,_⟩,_⟩;omega),hv];done)⟩,by omega⟩
  ·refine⟨by exact⟨by omega,by omega⟩,?_⟩
   exact⟨k+1,o,rfl,rfl,⟨by omega,by (rw[zJ hk2 (by rintro⟨⟨_,_,_⟩,_⟩;omega),hv];done)⟩,by omega⟩
 ·refine⟨?_,trivial⟩
  ·rw[hv,gF,show k=l.length by omega]
abbrev aDe (m:Int)(l:List Int):Prop:=cH Tryz.prog 147 [.one (.int .i64 m),.one (.sl 3 1 (l.map intD))] (vI (gF m l)) []
theorem aPw (m:Int)(l:List Int):aDe m l:=by
 refine aW bH aO Tryz.func147 (by kernel_rfl) (.loop (Nat × Int) (Q2 Nat Int) (rg 5 31) [] (fun yy0=>[(5,vI yy0.2),(6,vI (yy0.1:Int))]) (fun yy0=>[]) (fun yy0=>(yy0.1≤l.length∧yy0.1≤4)∧yy0.2=jS m l yy0.1) (fun yy0=>l.length - yy0.1) (fun yy0=> .len l.length<| .br (.lit<| .lit<| .br (.elem _ intD l (fun e19=> .call (vB (decide (0≤e19∧e19≤3))) []<| .br (.elem _ intD l (fun e26=> .lit<| .lit<| .lit<| .lit<| .lit<| .br (.back []) (.back []))) (.back []))) (.fin [])) (.fin []))) (p:=(l.map intD).length≤9223372036854775807→(∃(k:Nat) (o:Int),0=o∧0=(k:Int)∧(k≤l.length∧k≤4)∧o=jS m l k)∧ ∀(k:Nat) (o:Int),((k≤l.length∧k≤4)∧o=jS m l k)→Lm intD l∧Br ((k:Int)<(l.length:Int)) (Br ((k:Int)<4) (0≤(k:Int)∧Em intD l k fun e19=>fC e19 (0:Int) (3:Int)∧Br (0≤e19∧e19≤3) (0≤(k:Int)∧Em intD l k fun e26=>(0≤e26∧e26≤64)∧Br ((cI .and .i64 (m/2^(Int.toNat e26)) (1:Int))=1) ((0≤(k:Int)∧(k:Int)≤64)∧bO ((1:Int)*2^k)∧bO ((k:Int)+1)∧ ∃(k' :Nat) (o' :Int),(cI .or .i64 o ((1:Int)*2^k))=o' ∧((k:Int)+1)=(k' :Int)∧((k' ≤l.length∧k' ≤4)∧o' =jS m l k')∧l.length - k' <l.length - k) (bO ((k:Int)+1)∧ ∃(k' :Nat) (o' :Int),o=o' ∧((k:Int)+1)=(k' :Int)∧((k' ≤l.length∧k' ≤4)∧o' =jS m l k')∧l.length - k' <l.length - k)) (bO ((k:Int)+1)∧ ∃(k' :Nat) (o' :Int),o=o' ∧((k:Int)+1)=(k' :Int)∧((k' ≤l.length∧k' ≤4)∧o' =jS m l k')∧l.length - k' <l.length - k)) (o=(gF m l)∧True)) (o=(gF m l)∧True)) (by kernel_rfl) ?_
 intro n0
 simp only[List.length_map] at n0
 refine⟨⟨0,(0:Int),rfl,rfl,⟨Nat.zero_le _,by omega⟩,rfl⟩,fun k o ⟨hk,hv⟩=>?_⟩
 refine⟨List.length_map _,dd (fun g11=>?_) fun g11=>?_⟩
 ·refine dd (fun c0=>?_) fun c0=>?_
  ·refine⟨by omega,rfl,by omega,fun e19 h19=>?_⟩
   have hk2:=h19
   refine⟨iU _ _ _,dd (fun g22=>?_) fun g22=>?_⟩
   ·refine⟨by omega,rfl,by omega,fun e26 h26=>?_⟩
    obtain rfl:=(aZ hk2 h26).symm
    refine⟨⟨by omega,by omega⟩,dd (fun c1=>?_) fun c1=>?_⟩
    ·refine⟨⟨by omega,by omega⟩,by exact fM (by omega),by exact⟨by omega,by omega⟩,?_⟩
     exact⟨k+1,cI .or .i64 o ((1:Int)*2^k),rfl,rfl,⟨by omega,by (rw[aKF hk2 (by refine⟨⟨by omega,by omega,by omega⟩,by assumption⟩),hv];done)⟩,by omega⟩
    ·refine⟨by exact⟨by omega,by omega⟩,?_⟩
     exact⟨k+1,o,rfl,rfl,⟨by omega,by (rw[zJ hk2 (by rintro⟨⟨_,_,_⟩,_⟩;omega),hv];done)⟩,by omega⟩
   ·refine⟨by exact⟨by omega,by omega⟩,?_⟩
    exact⟨k+1,o,rfl,rfl,⟨by omega,by (rw[zJ hk2 (by rintro⟨⟨_,_,_⟩,_⟩;omega),hv];done)⟩,by omega⟩
  ·refine⟨?_,trivial⟩
   ·(rw[hv,gF,aOk (k:=l.length) (by omega),show k=4 by omega];done)
 ·refine⟨?_,trivial⟩
  ·(rw[hv,gF,show k=l.length by omega];done)
abbrev aB6 (l:List aH)(v:List Int):AV × List (Nat × Rs):=(.own 0,[(0,.arr 192 3 true ((l.map (lY v)).map aE))])
abbrev aHZ (l:List aH)(v:List Int):Prop:=cH Tryz.prog 102 [.one (.sl 192 3 (l.map aE)),.one (.sl 3 1 (v.map intD))] (aB6 l v).1 (aB6 l v).2
theorem aUR (l:List aH)(v:List Int)(hl:l.length≤1048576):aHZ l v:=by
 refine aW bH aO Tryz.func102 (by kernel_rfl) (.len l.length<| .loop (Nat × (List aH)) (Q2 Nat (List aH)) ([6,8,10]++rg 13 19) [800,1000,2900,3000] (fun yy0=>[(6,.own 1000),(13,vI (yy0.1:Int))]) (fun yy0=>[(1000,some (.arr 192 3 true (yy0.2.map aE)))]) (fun yy0=>yy0.1≤l.length∧yy0.2=(l.take yy0.1).map (lY v)) (fun yy0=>l.length - yy0.1) (fun yy0=> .br (.elem _ aE l (fun e15=> .call (vI (gF e15.src v)) []<| .call (vI (gF e15.dst v)) []<| .app aH aE yy0.2 ([(⟨gF e15.src v,gF e15.dst v,e15.bits⟩:aH)]:List aH)<| .back [(1000,3000)])) (.fin [(0,1000)]))) (p:=(l.map aE).length≤9223372036854775807→(v.map intD).length≤9223372036854775807→Lm aE l∧((∃(k:Nat) (out:List aH),0=(k:Int)∧[]=out.map aE∧k≤l.length∧out=(l.take k).map (lY v))∧ ∀(k:Nat) (out:List aH),(k≤l.length∧out=(l.take k).map (lY v))→Br ((k:Int)<(l.length:Int)) (0≤(k:Int)∧Em aE l k fun e15=>aDd e15.src v∧aDd e15.dst v∧out.map aE=out.map aE∧[[.int .i64 (gF e15.src v),.int .i64 (gF e15.dst v),.int .i64 e15.bits]]=([(⟨gF e15.src v,gF e15.dst v,e15.bits⟩:aH)]:List aH).map aE∧(∀x,bW (aE x)=true)∧(out.length+([(⟨gF e15.src v,gF e15.dst v,e15.bits⟩:aH)]:List aH).length)*24≤140737488355328∧bO ((k:Int)+1)∧ ∃(k' :Nat) (out' :List aH),((k:Int)+1)=(k' :Int)∧(out++[(⟨gF e15.src v,gF e15.dst v,e15.bits⟩:aH)]).map aE=out'.map aE∧(k' ≤l.length∧out' =(l.take k').map (lY v))∧l.length - k' <l.length - k) (out.map aE=(l.map (lY v)).map aE∧True))) (by kernel_rfl) ?_
 intro n0 n1
 simp only[List.length_map] at n0 n1
 refine⟨List.length_map _,⟨0,([]:List aH),rfl,rfl,Nat.zero_le _,rfl⟩,fun k out ⟨hk,ho⟩=>?_⟩
 refine dd (fun c0=>?_) fun c0=>?_
 ·refine⟨by omega,rfl,by omega,fun e15 h15=>?_⟩
  have hk2:=h15
  refine⟨aPv _ _,aPv _ _,rfl,rfl,fun _=>rfl,by simp[ho];omega,?_⟩
  refine⟨⟨by omega,by omega⟩,?_⟩
  exact⟨k+1,_,rfl,rfl,⟨by omega,by rw[ho,bU hk2,List.map_append];rfl⟩,by omega⟩
 ·refine⟨?_,trivial⟩
  ·rw[ho,List.take_of_length_le (by omega)]
abbrev aB7 (l:List aH)(v:List Int):AV × List (Nat × Rs):=(.own 0,[(0,.arr 192 3 true ((l.map (lY v)).map aE))])
abbrev aH0 (l:List aH)(v:List Int):Prop:=cH Tryz.prog 93 [.one (.sl 192 3 (l.map aE)),.one (.sl 3 1 (v.map intD))] (aB7 l v).1 (aB7 l v).2
theorem aUS (l:List aH)(v:List Int)(hl:l.length≤1048576):aH0 l v:=by
 refine aW bH aO Tryz.func93 (by kernel_rfl) (.loop (Nat × (List aH)) (Q2 Nat (List aH)) (rg 5 32) [700,3500,3600] (fun yy0=>[(5,.own 700),(6,vI (yy0.1:Int))]) (fun yy0=>[(700,some (.arr 192 3 true (yy0.2.map aE)))]) (fun yy0=>yy0.1≤l.length∧yy0.2=(l.take yy0.1).map (lY v)) (fun yy0=>l.length - yy0.1) (fun yy0=> .len l.length<| .br (.elem _ aE l (fun e17=> .call (vI (gF e17.src v)) []<| .elem _ aE l (fun e24=> .call (vI (gF e24.dst v)) []<| .elem _ aE l (fun e31=> .app aH aE yy0.2 ([(⟨gF e17.src v,gF e24.dst v,e31.bits⟩:aH)]:List aH)<| .back [(700,3600)])))) (.fin [(0,700)]))) (p:=(l.map aE).length≤9223372036854775807→(v.map intD).length≤9223372036854775807→(∃(k:Nat) (out:List aH),0=(k:Int)∧[]=out.map aE∧k≤l.length∧out=(l.take k).map (lY v))∧ ∀(k:Nat) (out:List aH),(k≤l.length∧out=(l.take k).map (lY v))→Lm aE l∧Br ((k:Int)<(l.length:Int)) (0≤(k:Int)∧Em aE l k fun e17=>aDe e17.src v∧0≤(k:Int)∧Em aE l k fun e24=>aDe e24.dst v∧0≤(k:Int)∧Em aE l k fun e31=>out.map aE=out.map aE∧[[.int .i64 (gF e17.src v),.int .i64 (gF e24.dst v),.int .i64 e31.bits]]=([(⟨gF e17.src v,gF e24.dst v,e31.bits⟩:aH)]:List aH).map aE∧(∀x,bW (aE x)=true)∧(out.length+([(⟨gF e17.src v,gF e24.dst v,e31.bits⟩:aH)]:List aH).length)*24≤140737488355328∧bO ((k:Int)+1)∧ ∃(k' :Nat) (out' :List aH),((k:Int)+1)=(k' :Int)∧(out++[(⟨gF e17.src v,gF e24.dst v,e31.bits⟩:aH)]).map aE=out'.map aE∧(k' ≤l.length∧out' =(l.take k').map (lY v))∧l.length - k' <l.length - k) (out.map aE=(l.map (lY v)).map aE∧True)) (by kernel_rfl) ?_
 intro n0 n1
 simp only[List.length_map] at n0 n1
 refine⟨⟨0,([]:List aH),rfl,rfl,Nat.zero_le _,rfl⟩,fun k out ⟨hk,ho⟩=>?_⟩
 refine⟨List.length_map _,dd (fun c0=>?_) fun c0=>?_⟩
 ·refine⟨by omega,rfl,by omega,fun e17 h17=>?_⟩
  have hk2:=h17
  refine⟨aPw _ _,by omega,rfl,by omega,fun e24 h24=>?_⟩
  obtain rfl:=(aZ hk2 h24).symm
  refine⟨aPw _ _,by omega,rfl,by omega,fun e31 h31=>?_⟩
  obtain rfl:=(aZ hk2 h31).symm
  refine⟨rfl,rfl,fun _=>rfl,by simp[ho];omega,?_⟩
  refine⟨⟨by omega,by omega⟩,?_⟩
  exact⟨k+1,_,rfl,rfl,⟨by omega,by rw[ho,bU hk2,List.map_append];rfl⟩,by omega⟩
 ·refine⟨?_,trivial⟩
  ·rw[ho,List.take_of_length_le (by omega)]
def aB8 (r:List Int)(s:Int):List Int:=if 0<s then r.set (s - 1).toNat (IntKind.i64.wrap (r.getD (s - 1).toNat 0+1)) else r
def aIi (r:List Int)(s:Int):List Int:=if 0<s then r.set (s - 1).toNat (IntKind.i64.wrap (r.getD (s - 1).toNat 0 - 1)) else r
def gU (al:Int)(p m:List Int):List Int:=m.foldl aIi (p.foldl aB8 (List.replicate al.toNat 0))
def nT (v:Int)(r:List Int)(s:Int):List Int:=if 0<s then r.set (s - 1).toNat v else r
def eN (al:Int)(p m:List Int):List Int:=m.foldl (nT (-1)) (p.foldl (nT 1) (List.replicate al.toNat 0))
abbrev dJ (n:Int):Int:=(1:Int)*2^n.toNat - 1
abbrev orB (s:Nat)(i:Nat):Int:=cI .or .i64 (s:Int) ((1:Int)*2^i)
abbrev or2 (s i j:Nat):Int:=cI .or .i64 (orB s i) ((1:Int)*2^j)
def wJ (row:List Int→List Int→List Int)(hd:Nat→Int)(al:Int):Nat→List (List Int)
 | 0=>[]
 | k+1=>wJ row hd al k++[row [hd k] [al]]
def aKG (s i:Nat):Bool:=decide (cI .and .i64 ((s:Int)/2^i) (1:Int)=0)
def elS (row:List Int→List Int→List Int)(i j:Nat):Nat→List (List Int)
 | 0=>[]
 | s+1=>elS row i j s++(if aKG s i=true∧aKG s j=true then [row [(s:Int),or2 s i j] [orB s i,orB s j]] else [])
def elJ (row:List Int→List Int→List Int)(T i:Nat):Nat→List (List Int)
 | 0=>[]
 | m+1=>elJ row T i m++elS row i (i+1+m) T
def elI (row:List Int→List Int→List Int)(T n:Nat):Nat→List (List Int)
 | 0=>[]
 | i+1=>elI row T n i++elJ row T i (n - (i+1))
def aUT (row:List Int→List Int→List Int)(hd:Nat→Int)(al:Int)(n:Nat):List (List Int):=wJ row hd al n++elI row (2^n) n n
def hdI (n:Int)(i:Nat):Int:=cI .andNot .i64 (dJ n) ((1:Int)*2^i)
def hdS (n:Int)(i:Nat):Int:=dJ n - 1*2^i
def aAq (n:Int):List (List Int):=if 1≤n∧n≤4 then aUT (gU (dJ n)) (hdI n) (dJ n) n.toNat else []
def dM (n:Int):List (List Int):=if 1≤n∧n≤4 then aUT (eN (dJ n)) (hdS n) (dJ n) n.toNat else []
theorem aLR (n:Int):aAq n=dM n:=by
 by_cases h:1≤n∧n≤4
 ·have:n=1∨n=2∨n=3∨n=4:=by omega
  rcases this with rfl | rfl | rfl | rfl<;>decide+kernel
 ·rw[aAq,dM,if_neg h,if_neg h]
theorem aNK {α:Type}{l:List α}{k:Nat}{x y:α}(h:l[k]? =some x):l.getD k y=x:=by simp[List.getD_eq_getElem?_getD,h]
theorem lL {α β:Type}{f:β→α→β}{l:List α}{k:Nat}{x:α}{z:β}(h:l[k]? =some x):(l.take (k+1)).foldl f z=f ((l.take k).foldl f z) x:=by rw[bU h,List.foldl_append];rfl
theorem aUU {r:List Int}{s y:Int}(h:0<s)(hy:r[(s - 1).toNat]? =some y):aB8 r s=r.set (s - 1).toNat (IntKind.i64.wrap (y+1)):=by rw[aB8,if_pos h,aNK hy]
theorem aUV {r:List Int}{s y:Int}(h:0<s)(hy:r[(s - 1).toNat]? =some y):aIi r s=r.set (s - 1).toNat (IntKind.i64.wrap (y - 1)):=by rw[aIi,if_pos h,aNK hy]
theorem aWR {r:List Int}{s:Int}(h: ¬0<s):aB8 r s=r:=by rw[aB8,if_neg h]
theorem aWS {r:List Int}{s:Int}(h: ¬0<s):aIi r s=r:=by rw[aIi,if_neg h]
theorem tY {r:List Int}{s v:Int}(h:0<s):nT v r s=r.set (s - 1).toNat v:=by rw[nT,if_pos h]
theorem aLS {r:List Int}{s v:Int}(h: ¬0<s):nT v r s=r:=by rw[nT,if_neg h]
theorem aYx {b:Int}: ∀s∈([]:List Int),s≤b:=by simp
theorem aOl {a b:Int}(h:a≤b): ∀s∈[a],s≤b:=by simpa using h
theorem aWT {a c b:Int}(h:a≤b)(h' :c≤b): ∀s∈[a,c],s≤b:=by simpa using ⟨h,h'⟩
theorem aY7: ∀(n:_root_.Fin 5) (i j:_root_.Fin 4) (s:_root_.Fin 16),i.1<n.1→j.1<n.1→s.1<2^n.1→orB s.1 i.1≤1*2^n.1 - 1∧or2 s.1 i.1 j.1≤1*2^n.1 - 1:=by decide+kernel
theorem aLT {n i j s:Nat}(hn:n≤4)(hi:i<n)(hj:j<n)(hs:s<2^n):orB s i≤1*2^n - 1∧or2 s i j≤1*2^n - 1:=by
 have h16:2^n≤2^4:=Nat.pow_le_pow_right (by omega) hn
 exact aY7 ⟨n,by omega⟩ ⟨i,by omega⟩ ⟨j,by omega⟩ ⟨s,by omega⟩ hi hj hs
theorem aWU: ∀(n:_root_.Fin 5) (i:_root_.Fin 4),i.1<n.1→hdI (n.1:Int) i.1≤1*2^n.1 - 1:=by decide+kernel
theorem aYC {n:Int}{i:Nat}(h:1≤n∧n≤4)(hi:(i:Int)<n):hdI n i≤dJ n:=by
 have:=aWU ⟨n.toNat,by omega⟩ ⟨i,by omega⟩ (by show i<n.toNat;omega)
 rw[show (((⟨n.toNat,by omega⟩:_root_.Fin 5).1:Nat):Int)=n from by show (n.toNat:Int)=n;omega] at this
 exact this
theorem aA8 {n:Int}(h:1≤n∧n≤4):((2^n.toNat:Nat):Int)=1*2^n.toNat∧2≤2^n.toNat∧2^n.toNat≤16:=by
 refine⟨by simp,?_,?_⟩
 ·have:2^1≤2^n.toNat:=Nat.pow_le_pow_right (by decide) (by omega)
  exact this
 ·have:2^n.toNat≤2^4:=Nat.pow_le_pow_right (by decide) (by omega)
  exact this
theorem aPx {n:Int}{i:Nat}(h:n≤4)(hi:(i:Int)<n):(1:Int)≤2^i∧(2:Int)^i≤2^n.toNat:=⟨zH (by omega) i,aKE (by omega) (by omega)⟩
abbrev mW (al:Int)(p:List Int)(m:List Int)(out:List (List Int)):List AV × List (Nat × Rs) × AV × List (Nat × Rs):=([.p none (.sl 3 1 (p.map intD)),.p none (.sl 3 1 (m.map intD)),.rp none [.int .i64 al],.ptr 0 0],[(0,.box 92 [.own 1]),(1,.arr 91 1 true (out.map aC))],.tup [],[(0,.box 92 [.own 2]),(2,.arr 91 1 true ((out++[gU al p m]).map aC))])
abbrev zK (al:Int)(p:List Int)(m:List Int)(out:List (List Int)):Prop:=rB Tryz.prog 211 (mW al p m out).1 (mW al p m out).2.1 (mW al p m out).2.2.1 (mW al p m out).2.2.2
theorem aKH (al:Int)(p m:List Int)(out:List (List Int))(hal:0≤al∧al≤15)(hp: ∀s∈p,s≤al)(hm: ∀s∈m,s≤al)(ho:out.length≤1000)(hpl:p.length≤100)(hml:m.length≤100):zK al p m out:=by
 refine aKu bH aO Tryz.func211 (by kernel_rfl) (by kernel_rfl) (.mk ((al).toNat) [.int .i64 (0:Int)] ((List.replicate ((al).toNat) (0:Int)).map intD)<| .len p.length<| .loop (Nat × (List Int)) (Q2 Nat (List Int)) ([6,8]++rg 15 14) [1200] (fun yy0=>[(15,vI (yy0.1:Int)),(6,.own 1200)]) (fun yy0=>[(1200,some (.arr 3 1 true (yy0.2.map intD)))]) (fun yy0=>yy0.1≤p.length∧yy0.2=(p.take yy0.1).foldl aB8 (List.replicate al.toNat 0)∧yy0.2.length=al.toNat) (fun yy0=>p.length - yy0.1) (fun yy0=> .br (.elem _ intD p (fun e17=> .br (.len yy0.2.length<| .elem _ intD yy0.2 (fun e25=> .raw<| .len yy0.2.length<| .set Int intD yy0.2 (fun s5_7=>IntKind.i64.wrap (e25+1)) (fun s5_7=> .back [(1200,1200)]))) (.back [(1200,1200)]))) (.len m.length<| .loop (Nat × (List Int)) (Q2 Nat (List Int)) ([6,10]++rg 31 14) [1200] (fun yy1=>[(31,vI (yy1.1:Int)),(6,.own 1200)]) (fun yy1=>[(1200,some (.arr 3 1 true (yy1.2.map intD)))]) (fun yy1=>yy1.1≤m.length∧yy1.2=(m.take yy1.1).foldl aIi (p.foldl aB8 (List.replicate al.toNat 0))∧yy1.2.length=al.toNat) (fun yy1=>m.length - yy1.1) (fun yy1=> .br (.elem _ intD m (fun e33=> .br (.len yy1.2.length<| .elem _ intD yy1.2 (fun e41=> .raw<| .len yy1.2.length<| .set Int intD yy1.2 (fun s11_7=>IntKind.i64.wrap (e41 - 1)) (fun s11_7=> .back [(1200,1200)]))) (.back [(1200,1200)]))) (.appx (List Int) aC out yy1.2<| .fin [(0,0),(2,4800)]))))) (p:=al=(((al).toNat:Nat):Int)∧al=(((al).toNat:Nat):Int)∧8*((al).toNat)≤281474976710656∧((al).toNat)≤9223372036854775807∧List.replicate ((al).toNat) [.int .i64 (0:Int)]=(List.replicate ((al).toNat) (0:Int)).map intD∧(Lm intD p∧((∃(k:Nat) (r:List Int),0=(k:Int)∧(List.replicate ((al).toNat) (0:Int)).map intD=r.map intD∧k≤p.length∧r=(p.take k).foldl aB8 (List.replicate al.toNat 0)∧r.length=al.toNat)∧ ∀(k:Nat) (r:List Int),(k≤p.length∧r=(p.take k).foldl aB8 (List.replicate al.toNat 0)∧r.length=al.toNat)→Br ((k:Int)<(p.length:Int)) (0≤(k:Int)∧Em intD p k fun e17=>Br (0<e17) (bO (e17 - 1)∧(0≤(e17 - 1)∧Lm intD r∧(e17 - 1)<(r.length:Int)∧Em intD r ((e17 - 1).toNat) fun e25=>0≤(e17 - 1)∧Lm intD r∧(e17 - 1)<(r.length:Int)∧(r.map intD=r.map intD∧(e17 - 1).toNat<r.length∧ ∀s5_7,r[(e17 - 1).toNat]? =some s5_7→bW (intD s5_7)=true∧0+1≤(intD s5_7).length∧(intD s5_7).take 0++[.int .i64 (IntKind.i64.wrap (e25+1))]++(intD s5_7).drop (0+1)=intD (IntKind.i64.wrap (e25+1))∧bO ((k:Int)+1)∧ ∃(k' :Nat) (r' :List Int),((k:Int)+1)=(k' :Int)∧(r.set ((e17 - 1).toNat) (IntKind.i64.wrap (e25+1))).map intD=r'.map intD∧(k' ≤p.length∧r' =(p.take k').foldl aB8 (List.replicate al.toNat 0)∧r'.length=al.toNat)∧p.length - k' <p.length - k))) (bO ((k:Int)+1)∧ ∃(k' :Nat) (r' :List Int),((k:Int)+1)=(k' :Int)∧r.map intD=r'.map intD∧(k' ≤p.length∧r' =(p.take k').foldl aB8 (List.replicate al.toNat 0)∧r'.length=al.toNat)∧p.length - k' <p.length - k)) (Lm intD m∧((∃(k2:Nat) (r2:List Int),0=(k2:Int)∧r.map intD=r2.map intD∧k2≤m.length∧r2=(m.take k2).foldl aIi (p.foldl aB8 (List.replicate al.toNat 0))∧r2.length=al.toNat)∧ ∀(k2:Nat) (r2:List Int),(k2≤m.length∧r2=(m.take k2).foldl aIi (p.foldl aB8 (List.replicate al.toNat 0))∧r2.length=al.toNat)→Br ((k2:Int)<(m.length:Int)) (0≤(k2:Int)∧Em intD m k2 fun e33=>Br (0<e33) (bO (e33 - 1)∧(0≤(e33 - 1)∧Lm intD r2∧(e33 - 1)<(r2.length:Int)∧Em intD r2 ((e33 - 1).toNat) fun e41=>0≤(e33 - 1)∧Lm intD r2∧(e33 - 1)<(r2.length:Int)∧(r2.map intD=r2.map intD∧(e33 - 1).toNat<r2.length∧ ∀s11_7,r2[(e33 - 1).toNat]? =some s11_7→bW (intD s11_7)=true∧0+1≤(intD s11_7).length∧(intD s11_7).take 0++[.int .i64 (IntKind.i64.wrap (e41 - 1))]++(intD s11_7).drop (0+1)=intD (IntKind.i64.wrap (e41 - 1))∧bO ((k2:Int)+1)∧ ∃(k2' :Nat) (r2' :List Int),((k2:Int)+1)=(k2' :Int)∧(r2.set ((e33 - 1).toNat) (IntKind.i64.wrap (e41 - 1))).map intD=r2'.map intD∧(k2' ≤m.length∧r2' =(m.take k2').foldl aIi (p.foldl aB8 (List.replicate al.toNat 0))∧r2'.length=al.toNat)∧m.length - k2' <m.length - k2))) (bO ((k2:Int)+1)∧ ∃(k2' :Nat) (r2' :List Int),((k2:Int)+1)=(k2' :Int)∧r2.map intD=r2'.map intD∧(k2' ≤m.length∧r2' =(m.take k2').foldl aIi (p.foldl aB8 (List.replicate al.toNat 0))∧r2'.length=al.toNat)∧m.length - k2' <m.length - k2)) (out.map aC=out.map aC∧r2.map intD=r2.map intD∧(out.length+1)*24≤140737488355328∧(out++[r2]).map aC=(out++[gU al p m]).map aC∧True)))))) (by kernel_rfl) ?_
 refine⟨by omega,by omega,by omega,by omega,by (rw[List.map_replicate];done),List.length_map _,⟨0,List.replicate ((al).toNat) (0:Int),rfl,rfl,Nat.zero_le _,rfl,List.length_replicate⟩,fun k r ⟨hk,hr,hl⟩=>?_⟩
 refine dd (fun c0=>?_) fun c0=>?_
 ·refine⟨by omega,rfl,by omega,fun e17 h17=>?_⟩
  have hx:=hp _ (List.mem_of_getElem? h17)
  refine dd (fun c1=>?_) fun c1=>?_
  ·refine⟨⟨by omega,by omega⟩,by omega,List.length_map _,by omega,rfl,by omega,fun e25 h25=>?_⟩
   refine⟨by omega,List.length_map _,by omega,rfl,by omega,fun s5_7 hs5_7=>⟨rfl,Nat.le_of_ble_eq_true rfl,rfl,?_⟩⟩
   refine⟨⟨by omega,by omega⟩,?_⟩
   exact⟨k+1,_,rfl,rfl,⟨by omega,by (rw[lL h17,←hr,aUU c1 h25]),by (rw[List.length_set];exact hl)⟩,by omega⟩
  ·refine⟨⟨by omega,by omega⟩,?_⟩
   exact⟨k+1,_,rfl,rfl,⟨by omega,by (rw[lL h17,←hr,aWR c1];done),by exact hl⟩,by omega⟩
 ·refine⟨List.length_map _,⟨0,r,rfl,rfl,Nat.zero_le _,by rw[hr,List.take_of_length_le (by omega)];rfl,hl⟩,fun k2 r2 ⟨hk2,hr2,hl2⟩=>?_⟩
  refine dd (fun c2=>?_) fun c2=>?_
  ·refine⟨by omega,rfl,by omega,fun e33 h33=>?_⟩
   have hx:=hm _ (List.mem_of_getElem? h33)
   refine dd (fun c3=>?_) fun c3=>?_
   ·refine⟨⟨by omega,by omega⟩,by omega,List.length_map _,by omega,rfl,by omega,fun e41 h41=>?_⟩
    refine⟨by omega,List.length_map _,by omega,rfl,by omega,fun s11_7 hs11_7=>⟨rfl,Nat.le_of_ble_eq_true rfl,rfl,?_⟩⟩
    refine⟨⟨by omega,by omega⟩,?_⟩
    exact⟨k2+1,_,rfl,rfl,⟨by omega,by (rw[lL h33,←hr2,aUV c3 h41]),by (rw[List.length_set];exact hl2)⟩,by omega⟩
   ·refine⟨⟨by omega,by omega⟩,?_⟩
    exact⟨k2+1,_,rfl,rfl,⟨by omega,by (rw[lL h33,←hr2,aWS c3];done),by exact hl2⟩,by omega⟩
  ·refine⟨rfl,rfl,by omega,?_,trivial⟩
   ·rw[hr2,List.take_of_length_le (by omega)];rfl
abbrev mX (n:Int)(p:List Int)(m:List Int):AV × List (Nat × Rs):=(.own 0,[(0,.arr 3 1 true ((eN (dJ n) p m).map intD))])
abbrev pV (n:Int)(p:List Int)(m:List Int):Prop:=cH Tryz.prog 144 [.one (.int .i64 n),.one (.sl 3 1 (p.map intD)),.one (.sl 3 1 (m.map intD))] (mX n p m).1 (mX n p m).2
theorem aA9 (n:Int)(p m:List Int)(hn:1≤n∧n≤4)(hp: ∀s∈p,s≤dJ n)(hm: ∀s∈m,s≤dJ n)(hpl:p.length≤100)(hml:m.length≤100):pV n p m:=by
 refine aW bH aO Tryz.func144 (by kernel_rfl) (.mk ((((1:Int)*2^(Int.toNat n)) - 1).toNat) [.int .i64 (0:Int)] ((List.replicate ((((1:Int)*2^(Int.toNat n)) - 1).toNat) (0:Int)).map intD)<| .loop (Nat × (List Int)) (Q2 Nat (List Int)) ([7,8]++rg 14 18) [1300] (fun yy0=>[(8,vI (yy0.1:Int)),(7,.own 1300)]) (fun yy0=>[(1300,some (.arr 3 1 true (yy0.2.map intD)))]) (fun yy0=>yy0.1≤p.length∧yy0.2=(p.take yy0.1).foldl (nT 1) (List.replicate (dJ n).toNat 0)∧yy0.2.length=(dJ n).toNat) (fun yy0=>p.length - yy0.1) (fun yy0=> .len p.length<| .br (.elem _ intD p (fun e22=> .br (.elem _ intD p (fun e28=> .len yy0.2.length<| .set Int intD yy0.2 (fun s6_7=>(1:Int)) (fun s6_7=> .back [(1300,1300)]))) (.back [(1300,1300)]))) (.loop (Nat × (List Int)) (Q2 Nat (List Int)) ([7,9]++rg 32 18) [1300] (fun yy1=>[(9,vI (yy1.1:Int)),(7,.own 1300)]) (fun yy1=>[(1300,some (.arr 3 1 true (yy1.2.map intD)))]) (fun yy1=>yy1.1≤m.length∧yy1.2=(m.take yy1.1).foldl (nT (-1)) (p.foldl (nT 1) (List.replicate (dJ n).toNat 0))∧yy1.2.length=(dJ n).toNat) (fun yy1=>m.length - yy1.1) (fun yy1=> .len m.length<| .br (.elem _ intD m (fun e40=> .br (.elem _ intD m (fun e46=> .len yy1.2.length<| .set Int intD yy1.2 (fun s11_7=>(-1:Int)) (fun s11_7=> .back [(1300,1300)]))) (.back [(1300,1300)]))) (.fin [(0,1300)]))))) (p:=(p.map intD).length≤9223372036854775807→(m.map intD).length≤9223372036854775807→(0≤n∧n≤64)∧(bO ((1:Int)*2^(Int.toNat n))∧(bO (((1:Int)*2^(Int.toNat n)) - 1)∧((((1:Int)*2^(Int.toNat n)) - 1)=(((((1:Int)*2^(Int.toNat n)) - 1).toNat:Nat):Int)∧(((1:Int)*2^(Int.toNat n)) - 1)=(((((1:Int)*2^(Int.toNat n)) - 1).toNat:Nat):Int)∧8*((((1:Int)*2^(Int.toNat n)) - 1).toNat)≤281474976710656∧((((1:Int)*2^(Int.toNat n)) - 1).toNat)≤9223372036854775807∧List.replicate ((((1:Int)*2^(Int.toNat n)) - 1).toNat) [.int .i64 (0:Int)]=(List.replicate ((((1:Int)*2^(Int.toNat n)) - 1).toNat) (0:Int)).map intD∧((∃(k:Nat) (r:List Int),0=(k:Int)∧(List.replicate ((((1:Int)*2^(Int.toNat n)) - 1).toNat) (0:Int)).map intD=r.map intD∧k≤p.length∧r=(p.take k).foldl (nT 1) (List.replicate (dJ n).toNat 0)∧r.length=(dJ n).toNat)∧ ∀(k:Nat) (r:List Int),(k≤p.length∧r=(p.take k).foldl (nT 1) (List.replicate (dJ n).toNat 0)∧r.length=(dJ n).toNat)→Lm intD p∧Br ((k:Int)<(p.length:Int)) (0≤(k:Int)∧Em intD p k fun e22=>Br (0<e22) (0≤(k:Int)∧Em intD p k fun e28=>bO (e28 - 1)∧(0≤(e28 - 1)∧Lm intD r∧(e28 - 1)<(r.length:Int)∧(r.map intD=r.map intD∧(e28 - 1).toNat<r.length∧ ∀s6_7,r[(e28 - 1).toNat]? =some s6_7→bW (intD s6_7)=true∧0+1≤(intD s6_7).length∧(intD s6_7).take 0++[.int .i64 (1:Int)]++(intD s6_7).drop (0+1)=intD (1:Int)∧bO ((k:Int)+1)∧ ∃(k' :Nat) (r' :List Int),((k:Int)+1)=(k' :Int)∧(r.set ((e28 - 1).toNat) (1:Int)).map intD=r'.map intD∧(k' ≤p.length∧r' =(p.take k').foldl (nT 1) (List.replicate (dJ n).toNat 0)∧r'.length=(dJ n).toNat)∧p.length - k' <p.length - k))) (bO ((k:Int)+1)∧ ∃(k' :Nat) (r' :List Int),((k:Int)+1)=(k' :Int)∧r.map intD=r'.map intD∧(k' ≤p.length∧r' =(p.take k').foldl (nT 1) (List.replicate (dJ n).toNat 0)∧r'.length=(dJ n).toNat)∧p.length - k' <p.length - k)) ((∃(k2:Nat) (r2:List Int),0=(k2:Int)∧r.map intD=r2.map intD∧k2≤m.length∧r2=(m.take k2).foldl (nT (-1)) (p.foldl (nT 1) (List.replicate (dJ n).toNat 0))∧r2.length=(dJ n).toNat)∧ ∀(k2:Nat) (r2:List Int),(k2≤m.length∧r2=(m.take k2).foldl (nT (-1)) (p.foldl (nT 1) (List.replicate (dJ n).toNat 0))∧r2.length=(dJ n).toNat)→Lm intD m∧Br ((k2:Int)<(m.length:Int)) (0≤(k2:Int)∧Em intD m k2 fun e40=>Br (0<e40) (0≤(k2:Int)∧Em intD m k2 fun e46=>bO (e46 - 1)∧(0≤(e46 - 1)∧Lm intD r2∧(e46 - 1)<(r2.length:Int)∧(r2.map intD=r2.map intD∧(e46 - 1).toNat<r2.length∧ ∀s11_7,r2[(e46 - 1).toNat]? =some s11_7→bW (intD s11_7)=true∧0+1≤(intD s11_7).length∧(intD s11_7).take 0++[.int .i64 (-1:Int)]++(intD s11_7).drop (0+1)=intD (-1:Int)∧bO ((k2:Int)+1)∧ ∃(k2' :Nat) (r2' :List Int),((k2:Int)+1)=(k2' :Int)∧(r2.set ((e46 - 1).toNat) (-1:Int)).map intD=r2'.map intD∧(k2' ≤m.length∧r2' =(m.take k2').foldl (nT (-1)) (p.foldl (nT 1) (List.replicate (dJ n).toNat 0))∧r2'.length=(dJ n).toNat)∧m.length - k2' <m.length - k2))) (bO ((k2:Int)+1)∧ ∃(k2' :Nat) (r2' :List Int),((k2:Int)+1)=(k2' :Int)∧r2.map intD=r2'.map intD∧(k2' ≤m.length∧r2' =(m.take k2').foldl (nT (-1)) (p.foldl (nT 1) (List.replicate (dJ n).toNat 0))∧r2'.length=(dJ n).toNat)∧m.length - k2' <m.length - k2)) (r2.map intD=(eN (dJ n) p m).map intD∧True))))))) (by kernel_rfl) ?_
 intro n0 n1
 simp only[List.length_map] at n0 n1
 obtain⟨b1,b2,b3⟩:=aA8 hn
 have hal:dJ n=1*2^n.toNat - 1:=rfl
 refine⟨⟨by omega,by omega⟩,by exact fM (by omega),by exact⟨by omega,by omega⟩,by omega,by omega,by omega,by omega,by (rw[List.map_replicate];done),⟨0,List.replicate ((((1:Int)*2^(Int.toNat n)) - 1).toNat) (0:Int),rfl,rfl,Nat.zero_le _,rfl,List.length_replicate⟩,fun k r ⟨hk,hr,hl⟩=>?_⟩
 refine⟨List.length_map _,dd (fun c0=>?_) fun c0=>?_⟩
 ·refine⟨by omega,rfl,by omega,fun e22 h22=>?_⟩
  have hx:=hp _ (List.mem_of_getElem? h22)
  refine dd (fun c1=>?_) fun c1=>?_
  ·refine⟨by omega,rfl,by omega,fun e28 h28=>?_⟩
   obtain rfl:=(aZ h22 h28).symm
   refine⟨by exact⟨by omega,by omega⟩,by omega,List.length_map _,by omega,rfl,by omega,fun s6_7 hs6_7=>⟨rfl,Nat.le_of_ble_eq_true rfl,rfl,?_⟩⟩
   refine⟨by exact⟨by omega,by omega⟩,?_⟩
   exact⟨k+1,_,rfl,rfl,⟨by omega,by (rw[lL h22,←hr,tY c1]),by (rw[List.length_set];exact hl)⟩,by omega⟩
  ·refine⟨by exact⟨by omega,by omega⟩,?_⟩
   exact⟨k+1,_,rfl,rfl,⟨by omega,by (rw[lL h22,←hr,aLS c1];done),by exact hl⟩,by omega⟩
 ·refine⟨⟨0,r,rfl,rfl,Nat.zero_le _,by rw[hr,List.take_of_length_le (by omega)];rfl,hl⟩,fun k2 r2 ⟨hk2,hr2,hl2⟩=>?_⟩
  refine⟨List.length_map _,dd (fun c2=>?_) fun c2=>?_⟩
  ·refine⟨by omega,rfl,by omega,fun e40 h40=>?_⟩
   have hx:=hm _ (List.mem_of_getElem? h40)
   refine dd (fun c3=>?_) fun c3=>?_
   ·refine⟨by omega,rfl,by omega,fun e46 h46=>?_⟩
    obtain rfl:=(aZ h40 h46).symm
    refine⟨by exact⟨by omega,by omega⟩,by omega,List.length_map _,by omega,rfl,by omega,fun s11_7 hs11_7=>⟨rfl,Nat.le_of_ble_eq_true rfl,rfl,?_⟩⟩
    refine⟨by exact⟨by omega,by omega⟩,?_⟩
    exact⟨k2+1,_,rfl,rfl,⟨by omega,by (rw[lL h40,←hr2,tY c3]),by (rw[List.length_set];exact hl2)⟩,by omega⟩
   ·refine⟨by exact⟨by omega,by omega⟩,?_⟩
    exact⟨k2+1,_,rfl,rfl,⟨by omega,by (rw[lL h40,←hr2,aLS c3];done),by exact hl2⟩,by omega⟩
  ·refine⟨?_,trivial⟩
   ·rw[hr2,List.take_of_length_le (by omega)];rfl
abbrev zL (n:Int):AV × List (Nat × Rs):=(.own 0,[(0,.arr 91 1 true ((dM n).map aC))])
abbrev aEb (n:Int):Prop:=cH Tryz.prog 145 [.one (.int .i64 n)] (zL n).1 (zL n).2
theorem aRc (n:Int):aEb n:=by
 refine aW bH aO Tryz.func145 (by kernel_rfl) (.call (vB (decide (1≤n∧n≤4))) []<| .br (.fin [(0,900)]) (.loop (Nat × (List (List Int))) (Q2 Nat (List (List Int))) ([3,5,9]++rg 17 17) [900,2800,3000,3100,3200,3300] (fun yy0=>[(3,.own 900),(5,vI (yy0.1:Int))]) (fun yy0=>[(900,some (.arr 91 1 true (yy0.2.map aC)))]) (fun yy0=>(yy0.1:Int)≤n∧yy0.2=wJ (eN (dJ n)) (hdS n) (dJ n) yy0.1∧yy0.2.length≤yy0.1) (fun yy0=>n.toNat - yy0.1) (fun yy0=> .br (bL (mX n ([(((1:Int)*2^(Int.toNat n)) - 1) - ((1:Int)*2^yy0.1)]:List Int) ([((1:Int)*2^(Int.toNat n)) - 1]:List Int))<| .appx (List Int) aC yy0.2 (eN (dJ n) ([(((1:Int)*2^(Int.toNat n)) - 1) - ((1:Int)*2^yy0.1)]:List Int) ([((1:Int)*2^(Int.toNat n)) - 1]:List Int))<| .back [(900,3300)]) (.loop (Nat × (List (List Int))) (Q2 Nat (List (List Int))) ([3,6,7,8]++rg 34 52) [900,7300,8200,8300,8400,8500] (fun yy1=>[(3,.own 900),(6,vI (yy1.1:Int))]) (fun yy1=>[(900,some (.arr 91 1 true (yy1.2.map aC)))]) (fun yy1=>(yy1.1:Int)≤n∧yy1.2=wJ (eN (dJ n)) (hdS n) (dJ n) n.toNat++elI (eN (dJ n)) (2^n.toNat) n.toNat yy1.1∧yy1.2.length≤4+yy1.1*64) (fun yy1=>n.toNat - yy1.1) (fun yy1=> .br (.loop (Nat × (List (List Int))) (Q2 Nat (List (List Int))) ([3,7,8]++rg 41 45) [900,7300,8200,8300,8400,8500] (fun yy2=>[(3,.own 900),(7,vI ((yy1.1+1+yy2.1:Nat):Int))]) (fun yy2=>[(900,some (.arr 91 1 true (yy2.2.map aC)))]) (fun yy2=>((yy1.1+1+yy2.1:Nat):Int)≤n∧yy2.2=wJ (eN (dJ n)) (hdS n) (dJ n) n.toNat++elI (eN (dJ n)) (2^n.toNat) n.toNat yy1.1++elJ (eN (dJ n)) (2^n.toNat) yy1.1 yy2.1∧yy2.2.length≤4+yy1.1*64+yy2.1*16) (fun yy2=>n.toNat - (yy1.1+1+yy2.1)) (fun yy2=> .br (.loop (Nat × (List (List Int))) (Q2 Nat (List (List Int))) ([3,8]++rg 46 40) [900,7300,8200,8300,8400,8500] (fun yy3=>[(3,.own 900),(8,vI (yy3.1:Int))]) (fun yy3=>[(900,some (.arr 91 1 true (yy3.2.map aC)))]) (fun yy3=>yy3.1≤2^n.toNat∧yy3.2=wJ (eN (dJ n)) (hdS n) (dJ n) n.toNat++elI (eN (dJ n)) (2^n.toNat) n.toNat yy1.1++elJ (eN (dJ n)) (2^n.toNat) yy1.1 yy2.1++elS (eN (dJ n)) yy1.1 (yy1.1+1+yy2.1) yy3.1∧yy3.2.length≤4+yy1.1*64+yy2.1*16+yy3.1) (fun yy3=>2^n.toNat - yy3.1) (fun yy3=> .br (.br (.lit<| .lit<| .lit<| .lit<| .lit<| .br (bL (mX n ([(yy3.1:Int),cI .or .i64 (cI .or .i64 (yy3.1:Int) ((1:Int)*2^yy1.1)) ((1:Int)*2^(yy1.1+1+yy2.1))]:List Int) ([cI .or .i64 (yy3.1:Int) ((1:Int)*2^yy1.1),cI .or .i64 (yy3.1:Int) ((1:Int)*2^(yy1.1+1+yy2.1))]:List Int))<| .appx (List Int) aC yy3.2 (eN (dJ n) ([(yy3.1:Int),cI .or .i64 (cI .or .i64 (yy3.1:Int) ((1:Int)*2^yy1.1)) ((1:Int)*2^(yy1.1+1+yy2.1))]:List Int) ([cI .or .i64 (yy3.1:Int) ((1:Int)*2^yy1.1),cI .or .i64 (yy3.1:Int) ((1:Int)*2^(yy1.1+1+yy2.1))]:List Int))<| .back [(900,8500)]) (.back [(900,900)])) (.back [(900,900)])) (.back [(900,900)]))) (.back [(900,900)]))) (.fin [(0,900)])))))) (p:=fC n (1:Int) (4:Int)∧Nb (1≤n∧n≤4) ([]=(dM n).map aC∧True) ((0≤n∧n≤64)∧(bO ((1:Int)*2^(Int.toNat n))∧(bO (((1:Int)*2^(Int.toNat n)) - 1)∧((∃(i:Nat) (o0:List (List Int)),0=(i:Int)∧[]=o0.map aC∧(i:Int)≤n∧o0=wJ (eN (dJ n)) (hdS n) (dJ n) i∧o0.length≤i)∧ ∀(i:Nat) (o0:List (List Int)),((i:Int)≤n∧o0=wJ (eN (dJ n)) (hdS n) (dJ n) i∧o0.length≤i)→Br ((i:Int)<n) ((0≤(i:Int)∧(i:Int)≤64)∧bO ((1:Int)*2^i)∧bO ((((1:Int)*2^(Int.toNat n)) - 1) - ((1:Int)*2^i))∧pV n ([(((1:Int)*2^(Int.toNat n)) - 1) - ((1:Int)*2^i)]:List Int) ([((1:Int)*2^(Int.toNat n)) - 1]:List Int)∧o0.map aC=o0.map aC∧(eN (dJ n) ([(((1:Int)*2^(Int.toNat n)) - 1) - ((1:Int)*2^i)]:List Int) ([((1:Int)*2^(Int.toNat n)) - 1]:List Int)).map intD=(eN (dJ n) ([(((1:Int)*2^(Int.toNat n)) - 1) - ((1:Int)*2^i)]:List Int) ([((1:Int)*2^(Int.toNat n)) - 1]:List Int)).map intD∧(o0.length+1)*24≤140737488355328∧bO ((i:Int)+1)∧ ∃(i' :Nat) (o0' :List (List Int)),((i:Int)+1)=(i' :Int)∧(o0++[eN (dJ n) ([(((1:Int)*2^(Int.toNat n)) - 1) - ((1:Int)*2^i)]:List Int) ([((1:Int)*2^(Int.toNat n)) - 1]:List Int)]).map aC=o0'.map aC∧((i' :Int)≤n∧o0' =wJ (eN (dJ n)) (hdS n) (dJ n) i' ∧o0'.length≤i')∧n.toNat - i' <n.toNat - i) ((∃(i:Nat) (o1:List (List Int)),0=(i:Int)∧o0.map aC=o1.map aC∧(i:Int)≤n∧o1=wJ (eN (dJ n)) (hdS n) (dJ n) n.toNat++elI (eN (dJ n)) (2^n.toNat) n.toNat i∧o1.length≤4+i*64)∧ ∀(i:Nat) (o1:List (List Int)),((i:Int)≤n∧o1=wJ (eN (dJ n)) (hdS n) (dJ n) n.toNat++elI (eN (dJ n)) (2^n.toNat) n.toNat i∧o1.length≤4+i*64)→Br ((i:Int)<n) (bO ((i:Int)+1)∧((∃(j:Nat) (o2:List (List Int)),((i:Int)+1)=((i+1+j:Nat):Int)∧o1.map aC=o2.map aC∧((i+1+j:Nat):Int)≤n∧o2=wJ (eN (dJ n)) (hdS n) (dJ n) n.toNat++elI (eN (dJ n)) (2^n.toNat) n.toNat i++elJ (eN (dJ n)) (2^n.toNat) i j∧o2.length≤4+i*64+j*16)∧ ∀(j:Nat) (o2:List (List Int)),(((i+1+j:Nat):Int)≤n∧o2=wJ (eN (dJ n)) (hdS n) (dJ n) n.toNat++elI (eN (dJ n)) (2^n.toNat) n.toNat i++elJ (eN (dJ n)) (2^n.toNat) i j∧o2.length≤4+i*64+j*16)→Br (((i+1+j:Nat):Int)<n) ((∃(s:Nat) (o3:List (List Int)),0=(s:Int)∧o2.map aC=o3.map aC∧s≤2^n.toNat∧o3=wJ (eN (dJ n)) (hdS n) (dJ n) n.toNat++elI (eN (dJ n)) (2^n.toNat) n.toNat i++elJ (eN (dJ n)) (2^n.toNat) i j++elS (eN (dJ n)) i (i+1+j) s∧o3.length≤4+i*64+j*16+s)∧ ∀(s:Nat) (o3:List (List Int)),(s≤2^n.toNat∧o3=wJ (eN (dJ n)) (hdS n) (dJ n) n.toNat++elI (eN (dJ n)) (2^n.toNat) n.toNat i++elJ (eN (dJ n)) (2^n.toNat) i j++elS (eN (dJ n)) i (i+1+j) s∧o3.length≤4+i*64+j*16+s)→Br ((s:Int)≤(((1:Int)*2^(Int.toNat n)) - 1)) ((0≤(i:Int)∧(i:Int)≤64)∧Br ((cI .and .i64 ((s:Int)/2^i) (1:Int))=0) ((0≤((i+1+j:Nat):Int)∧((i+1+j:Nat):Int)≤64)∧Br ((cI .and .i64 ((s:Int)/2^(i+1+j)) (1:Int))=0) ((0≤(i:Int)∧(i:Int)≤64)∧bO ((1:Int)*2^i)∧(0≤((i+1+j:Nat):Int)∧((i+1+j:Nat):Int)≤64)∧bO ((1:Int)*2^(i+1+j))∧(0≤(i:Int)∧(i:Int)≤64)∧bO ((1:Int)*2^i)∧(0≤((i+1+j:Nat):Int)∧((i+1+j:Nat):Int)≤64)∧bO ((1:Int)*2^(i+1+j))∧pV n ([(s:Int),cI .or .i64 (cI .or .i64 (s:Int) ((1:Int)*2^i)) ((1:Int)*2^(i+1+j))]:List Int) ([cI .or .i64 (s:Int) ((1:Int)*2^i),cI .or .i64 (s:Int) ((1:Int)*2^(i+1+j))]:List Int)∧o3.map aC=o3.map aC∧(eN (dJ n) ([(s:Int),cI .or .i64 (cI .or .i64 (s:Int) ((1:Int)*2^i)) ((1:Int)*2^(i+1+j))]:List Int) ([cI .or .i64 (s:Int) ((1:Int)*2^i),cI .or .i64 (s:Int) ((1:Int)*2^(i+1+j))]:List Int)).map intD=(eN (dJ n) ([(s:Int),cI .or .i64 (cI .or .i64 (s:Int) ((1:Int)*2^i)) ((1:Int)*2^(i+1+j))]:List Int) ([cI .or .i64 (s:Int) ((1:Int)*2^i),cI .or .i64 (s:Int) ((1:Int)*2^(i+1+j))]:List Int)).map intD∧(o3.length+1)*24≤140737488355328∧bO ((s:Int)+1)∧ ∃(s' :Nat) (o3' :List (List Int)),((s:Int)+1)=(s' :Int)∧(o3++[eN (dJ n) ([(s:Int),cI .or .i64 (cI .or .i64 (s:Int) ((1:Int)*2^i)) ((1:Int)*2^(i+1+j))]:List Int) ([cI .or .i64 (s:Int) ((1:Int)*2^i),cI .or .i64 (s:Int) ((1:Int)*2^(i+1+j))]:List Int)]).map aC=o3'.map aC∧(s' ≤2^n.toNat∧o3' =wJ (eN (dJ n)) (hdS n) (dJ n) n.toNat++elI (eN (dJ n)) (2^n.toNat) n.toNat i++elJ (eN (dJ n)) (2^n.toNat) i j++elS (eN (dJ n)) i (i+1+j) s' ∧o3'.length≤4+i*64+j*16+s')∧2^n.toNat - s' <2^n.toNat - s) (bO ((s:Int)+1)∧ ∃(s' :Nat) (o3' :List (List Int)),((s:Int)+1)=(s' :Int)∧o3.map aC=o3'.map aC∧(s' ≤2^n.toNat∧o3' =wJ (eN (dJ n)) (hdS n) (dJ n) n.toNat++elI (eN (dJ n)) (2^n.toNat) n.toNat i++elJ (eN (dJ n)) (2^n.toNat) i j++elS (eN (dJ n)) i (i+1+j) s' ∧o3'.length≤4+i*64+j*16+s')∧2^n.toNat - s' <2^n.toNat - s)) (bO ((s:Int)+1)∧ ∃(s' :Nat) (o3' :List (List Int)),((s:Int)+1)=(s' :Int)∧o3.map aC=o3'.map aC∧(s' ≤2^n.toNat∧o3' =wJ (eN (dJ n)) (hdS n) (dJ n) n.toNat++elI (eN (dJ n)) (2^n.toNat) n.toNat i++elJ (eN (dJ n)) (2^n.toNat) i j++elS (eN (dJ n)) i (i+1+j) s' ∧o3'.length≤4+i*64+j*16+s')∧2^n.toNat - s' <2^n.toNat - s)) (bO (((i+1+j:Nat):Int)+1)∧ ∃(j' :Nat) (o2' :List (List Int)),(((i+1+j:Nat):Int)+1)=((i+1+j' :Nat):Int)∧o3.map aC=o2'.map aC∧(((i+1+j' :Nat):Int)≤n∧o2' =wJ (eN (dJ n)) (hdS n) (dJ n) n.toNat++elI (eN (dJ n)) (2^n.toNat) n.toNat i++elJ (eN (dJ n)) (2^n.toNat) i j' ∧o2'.length≤4+i*64+j' *16)∧n.toNat - (i+1+j')<n.toNat - (i+1+j))) (bO ((i:Int)+1)∧ ∃(i' :Nat) (o1' :List (List Int)),((i:Int)+1)=(i' :Int)∧o2.map aC=o1'.map aC∧((i' :Int)≤n∧o1' =wJ (eN (dJ n)) (hdS n) (dJ n) n.toNat++elI (eN (dJ n)) (2^n.toNat) n.toNat i' ∧o1'.length≤4+i' *64)∧n.toNat - i' <n.toNat - i))) (o1.map aC=(dM n).map aC∧True))))))) (by kernel_rfl) ?_
 refine⟨iU _ _ _,dn (fun c0=>?_) fun c0=>?_⟩
 ·refine⟨?_,trivial⟩
  ·(rw[dM,if_neg (by omega)]<;>rfl)
 ·obtain⟨b1,b2,b3⟩:=aA8 (n:=n) (by omega)
  have hal:dJ n=1*2^n.toNat - 1:=rfl
  refine⟨⟨by omega,by omega⟩,by exact fM (by omega),by exact⟨by omega,by omega⟩,⟨0,([]:List (List Int)),rfl,rfl,by omega,rfl,Nat.zero_le _⟩,fun i o0 ⟨hi,ho,hL⟩=>?_⟩
  refine dd (fun c1=>?_) fun c1=>?_
  ·have hw:=aPx (n:=n) (i:=i) (by omega) (by omega)
   refine⟨⟨by omega,by omega⟩,by exact fM (by omega),by exact⟨by omega,by omega⟩,aA9 _ ([(((1:Int)*2^(Int.toNat n)) - 1) - ((1:Int)*2^i)]:List Int) ([((1:Int)*2^(Int.toNat n)) - 1]:List Int) (by omega) (by exact aOl (by omega)) (by exact aOl (by omega)) (by simp) (by simp),rfl,rfl,by omega,by exact⟨by omega,by omega⟩,?_⟩
   exact⟨i+1,_,rfl,rfl,⟨by omega,by rw[ho];rfl,by simp;omega⟩,by omega⟩
  ·refine⟨⟨0,o0,rfl,rfl,by omega,by rw[ho,show i=n.toNat by omega];simp[elI],by omega⟩,fun i o1 ⟨hi1,ho1,hL1⟩=>?_⟩
   refine dd (fun c2=>?_) fun c2=>?_
   ·refine⟨by exact⟨by omega,by omega⟩,⟨0,o1,by rfl,by rfl,by omega,by rw[ho1];simp[elJ],by omega⟩,fun j o2 ⟨hj,ho2,hL2⟩=>?_⟩
    refine dd (fun c3=>?_) fun c3=>?_
    ·refine⟨⟨0,o2,rfl,rfl,Nat.zero_le _,by rw[ho2];simp[elS],by omega⟩,fun s o3 ⟨hs,ho3,hL3⟩=>?_⟩
     refine dd (fun c4=>?_) fun c4=>?_
     ·refine⟨⟨by omega,by omega⟩,dd (fun g56=>?_) fun g56=>?_⟩
      ·refine⟨⟨by omega,by omega⟩,dd (fun c5=>?_) fun c5=>?_⟩
       ·obtain⟨v1,v2⟩:=aLT (n:=n.toNat) (i:=i) (j:=i+1+j) (s:=s) (by omega) (by omega) (by omega) (by omega)
        obtain⟨v3,v4⟩:=aLT (n:=n.toNat) (i:=i+1+j) (j:=i) (s:=s) (by omega) (by omega) (by omega) (by omega)
        refine⟨⟨by omega,by omega⟩,by exact fM (by omega),⟨by omega,by omega⟩,by exact fM (by omega),⟨by omega,by omega⟩,by exact fM (by omega),⟨by omega,by omega⟩,by exact fM (by omega),aA9 _ ([(s:Int),cI .or .i64 (cI .or .i64 (s:Int) ((1:Int)*2^i)) ((1:Int)*2^(i+1+j))]:List Int) ([cI .or .i64 (s:Int) ((1:Int)*2^i),cI .or .i64 (s:Int) ((1:Int)*2^(i+1+j))]:List Int) (by omega) (by exact aWT (by omega) (by omega)) (by exact aWT (by omega) (by omega)) (by simp) (by simp),rfl,rfl,by omega,by exact⟨by omega,by omega⟩,?_⟩
        exact⟨s+1,_,rfl,rfl,⟨by omega,by (rw[ho3,elS,if_pos ⟨decide_eq_true g56,decide_eq_true c5⟩];simp only[List.append_assoc];done),by (simp;omega)⟩,by omega⟩
       ·refine⟨by exact⟨by omega,by omega⟩,?_⟩
        exact⟨s+1,_,rfl,rfl,⟨by omega,by (rw[ho3,elS,if_neg (by rintro⟨q1,q2⟩;simp only[aKG,decide_eq_true_eq] at q1 q2;contradiction),List.append_nil]),by omega⟩,by omega⟩
      ·refine⟨by exact⟨by omega,by omega⟩,?_⟩
       exact⟨s+1,_,rfl,rfl,⟨by omega,by (rw[ho3,elS,if_neg (by rintro⟨q1,q2⟩;simp only[aKG,decide_eq_true_eq] at q1 q2;contradiction),List.append_nil]),by omega⟩,by omega⟩
     ·refine⟨by exact⟨by omega,by omega⟩,?_⟩
      exact⟨j+1,_,by rfl,by rfl,⟨by omega,by rw[ho3,show s=2^n.toNat by omega,elJ,←List.append_assoc],by omega⟩,by omega⟩
    ·refine⟨by exact⟨by omega,by omega⟩,?_⟩
     exact⟨i+1,_,rfl,rfl,⟨by omega,by rw[ho2,show j=n.toNat - (i+1) by omega,elI,List.append_assoc],by omega⟩,by omega⟩
   ·refine⟨?_,trivial⟩
    ·(rw[ho1,show i=n.toNat by omega,dM,if_pos (by omega)];rfl)
def aAh (x:Int):Bool:=decide (-9≤x∧x≤9)
def wK (x:Int):Bool:=decide (0≤x∧x≤99)
def jA (n:Int)(r:List Int):Bool:=r.all aAh&&decide ((r.length:Int)=n)
def cV (p:bZ):Bool:=decide (1≤(p.objective.length:Int)∧(p.objective.length:Int)≤15)&&(decide ((p.rows.length:Int)≤64)&&(decide ((p.limits.length:Int)=p.rows.length)&&((p.rows++[p.objective]).all (jA p.objective.length)&&p.limits.all wK)))
theorem lM {p:bZ}(h: ¬((1≤(p.objective.length:Int)∧(p.objective.length:Int)≤15)∧(p.rows.length:Int)≤64∧(p.limits.length:Int)=p.rows.length)):cV p=false:=by
 cases e:cV p with
 | false=>rfl
 | true=>
   simp only[cV,Bool.and_eq_true,decide_eq_true_eq] at e
   exact absurd ⟨e.1,e.2.1,e.2.2.1⟩ h
theorem aNL {p:bZ}(h:(p.rows++[p.objective]).all (jA p.objective.length)=false):cV p=false:=by simp only[cV,h,Bool.false_and,Bool.and_false]
theorem vT {p:bZ}{k:Nat}{r:List Int}(h:(p.rows++[p.objective])[k]? =some r)(hr:jA p.objective.length r=false):cV p=false:=aNL (eO h hr)
theorem aEc {p:bZ}{k:Nat}{r:List Int}(h:p.rows[k]? =some r)(hr:jA p.objective.length r=false):cV p=false:=by
 refine vT (k:=k) (r:=r) ?_ hr
 rw[List.getElem?_append_left (List.getElem?_eq_some_iff.1 h).1];exact h
theorem aOm {p:bZ}(hr:jA p.objective.length p.objective=false):cV p=false:=vT (k:=p.rows.length) (r:=p.objective) (by simp) hr
theorem aH1 {p:bZ}{k:Nat}{x:Int}(h:p.limits[k]? =some x)(hx:wK x=false):cV p=false:=by
 simp only[cV,eO h hx,Bool.and_false]
theorem aKI {p:bZ}(h:(1≤(p.objective.length:Int)∧(p.objective.length:Int)≤15)∧(p.rows.length:Int)≤64∧(p.limits.length:Int)=p.rows.length)(h1:(p.rows++[p.objective]).all (jA p.objective.length)=true)(h2:p.limits.all wK=true):cV p=true:=by
 simp only[cV,h1,h2,Bool.and_true,Bool.and_eq_true,decide_eq_true_eq];exact h
theorem aH2 {n:Int}{r:List Int}{k:Nat}{x:Int}(h:r[k]? =some x)(hx:aAh x=false):jA n r=false:=by simp only[jA,eO h hx,Bool.false_and]
theorem aKJ {n:Int}{r:List Int}(h: ¬(r.length:Int)=n):jA n r=false:=by simp only[jA,decide_eq_false h,Bool.and_false]
theorem aH3 {n:Int}{r:List Int}(h:r.all aAh=true)(hl:(r.length:Int)=n):jA n r=true:=by simp only[jA,h,decide_eq_true hl,Bool.and_true]
theorem mI {p:bZ}(h:cV p=true):(1≤p.objective.length∧p.objective.length≤15)∧p.rows.length≤64∧p.limits.length=p.rows.length∧(∀r∈p.rows++[p.objective],r.length=p.objective.length∧ ∀x∈r,-9≤x∧x≤9)∧ ∀x∈p.limits,0≤x∧x≤99:=by
 simp only[cV,Bool.and_eq_true,decide_eq_true_eq,List.all_eq_true] at h
 obtain⟨h1,h2,h3,h4,h5⟩:=h
 refine⟨by omega,by omega,by omega,fun r hr=>?_,fun x hx=>?_⟩
 ·have:=h4 r hr
  simp only[jA,Bool.and_eq_true,decide_eq_true_eq,List.all_eq_true] at this
  refine⟨by omega,fun x hx=>?_⟩
  have:=this.1 x hx
  simpa [aAh] using this
 ·have:=h5 x hx
  simpa [wK] using this
theorem aWV {p:bZ}(hp: ∀r∈p.rows,r.length≤1048576)(ho:p.objective.length≤1048576){k:Nat}{r:List Int}(h:((([]:List (List Int))++p.rows)++[p.objective])[k]? =some r):r.length≤1048576:=by
 have:=List.mem_of_getElem? h
 simp only[List.nil_append,List.mem_append,List.mem_singleton] at this
 rcases this with h | rfl
 ·exact hp _ h
 ·exact ho
abbrev zM (p:bZ):Prop:=cH Tryz.prog 159 [.agg [.sl 3 1 (p.objective.map intD),.sl 91 1 (p.rows.map aC),.sl 3 1 (p.limits.map intD)]] (vB (cV p)) []
theorem aKK (p:bZ)(hp: ∀r∈p.rows,r.length≤1048576):zM p:=by
 refine aW bH aO Tryz.func159 (by kernel_rfl) (.len p.objective.length<| .call (vB (decide (1≤(p.objective.length:Int)∧(p.objective.length:Int)≤15))) []<| .br (.fin []) (.len p.rows.length<| .lit<| .lit<| .br (.fin []) (.len p.limits.length<| .len p.rows.length<| .lit<| .lit<| .br (.fin []) (.appr (List Int) aC ([]:List (List Int)) p.rows<| .appr (List Int) aC (([]:List (List Int))++p.rows) ([p.objective]:List (List Int))<| .len (((([]:List (List Int))++p.rows)++[p.objective]).length)<| .loop Nat (Q1 Nat) ([5,7]++rg 40 19) [] (fun k=>[(40,vI (k:Int))]) (fun k=>[]) (fun k=>k≤((([]:List (List Int))++p.rows)++[p.objective]).length∧(((([]:List (List Int))++p.rows)++[p.objective]).take k).all (jA p.objective.length)=true) (fun k=>((([]:List (List Int))++p.rows)++[p.objective]).length - k) (fun k=> .br (.len (((([]:List (List Int))++p.rows)++[p.objective]).length)<| .elem _ aC ((([]:List (List Int))++p.rows)++[p.objective]) (fun e43=> .len e43.length<| .loop Nat (Q1 Nat) ([7]++rg 46 8) [] (fun j=>[(46,vI (j:Int))]) (fun j=>[]) (fun j=>j≤e43.length∧(e43.take j).all aAh=true) (fun j=>e43.length - j) (fun j=> .br (.elem _ intD e43 (fun e48=> .call (vB (decide ((-9:Int)≤e48∧e48≤9))) []<| .br (.fin []) (.back []))) (.len e43.length<| .br (.fin []) (.back []))))) (.len p.limits.length<| .loop Nat (Q1 Nat) ([9]++rg 62 8) [] (fun i=>[(62,vI (i:Int))]) (fun i=>[]) (fun i=>i≤p.limits.length∧(p.limits.take i).all wK=true) (fun i=>p.limits.length - i) (fun i=> .br (.elem _ intD p.limits (fun e64=> .call (vB (decide (0≤e64∧e64≤99))) []<| .br (.fin []) (.back []))) (.fin [])))))))) (p:=(p.objective.map intD).length≤9223372036854775807→(p.rows.map aC).length≤9223372036854775807→(p.limits.map intD).length≤9223372036854775807→Lm intD p.objective∧(jP (p.objective.length:Int) (1:Int) (15:Int)∧Nb (1≤(p.objective.length:Int)∧(p.objective.length:Int)≤15) ((false)=(cV p)∧True) (Lm aC p.rows∧Br (64<(p.rows.length:Int)) ((false)=(cV p)∧True) (Lm intD p.limits∧(Lm aC p.rows∧Nb ((p.limits.length:Int)=(p.rows.length:Int)) ((false)=(cV p)∧True) ([]=([]:List (List Int)).map aC∧p.rows.map aC=p.rows.map aC∧(([]:List (List Int)).length+p.rows.length)*24≤140737488355328∧((([]:List (List Int))++p.rows).map aC=(([]:List (List Int))++p.rows).map aC∧[[.sl 3 1 (p.objective.map intD)]]=([p.objective]:List (List Int)).map aC∧((([]:List (List Int))++p.rows).length+([p.objective]:List (List Int)).length)*24≤140737488355328∧(Lm aC ((([]:List (List Int))++p.rows)++[p.objective])∧((∃(k:Nat),0=(k:Int)∧k≤((([]:List (List Int))++p.rows)++[p.objective]).length∧(((([]:List (List Int))++p.rows)++[p.objective]).take k).all (jA p.objective.length)=true)∧ ∀(k:Nat),(k≤((([]:List (List Int))++p.rows)++[p.objective]).length∧(((([]:List (List Int))++p.rows)++[p.objective]).take k).all (jA p.objective.length)=true)→Br ((k:Int)<((((([]:List (List Int))++p.rows)++[p.objective]).length:Nat):Int)) (0≤(k:Int)∧Lm aC ((([]:List (List Int))++p.rows)++[p.objective])∧(k:Int)<((((([]:List (List Int))++p.rows)++[p.objective]).length:Nat):Int)∧Em aC ((([]:List (List Int))++p.rows)++[p.objective]) k fun e43=>Lm intD e43∧((∃(j:Nat),0=(j:Int)∧j≤e43.length∧(e43.take j).all aAh=true)∧ ∀(j:Nat),(j≤e43.length∧(e43.take j).all aAh=true)→Br ((j:Int)<(e43.length:Int)) (0≤(j:Int)∧Em intD e43 j fun e48=>jP e48 (-9:Int) (9:Int)∧Nb ((-9:Int)≤e48∧e48≤9) ((false)=(cV p)∧True) (bO ((j:Int)+1)∧ ∃(j' :Nat),((j:Int)+1)=(j' :Int)∧(j' ≤e43.length∧(e43.take j').all aAh=true)∧e43.length - j' <e43.length - j)) (Lm intD e43∧Nb ((e43.length:Int)=(p.objective.length:Int)) ((false)=(cV p)∧True) (bO ((k:Int)+1)∧ ∃(k' :Nat),((k:Int)+1)=(k' :Int)∧(k' ≤((([]:List (List Int))++p.rows)++[p.objective]).length∧(((([]:List (List Int))++p.rows)++[p.objective]).take k').all (jA p.objective.length)=true)∧((([]:List (List Int))++p.rows)++[p.objective]).length - k' <((([]:List (List Int))++p.rows)++[p.objective]).length - k)))) (Lm intD p.limits∧((∃(i:Nat),0=(i:Int)∧i≤p.limits.length∧(p.limits.take i).all wK=true)∧ ∀(i:Nat),(i≤p.limits.length∧(p.limits.take i).all wK=true)→Br ((i:Int)<(p.limits.length:Int)) (0≤(i:Int)∧Em intD p.limits i fun e64=>jP e64 (0:Int) (99:Int)∧Nb (0≤e64∧e64≤99) ((false)=(cV p)∧True) (bO ((i:Int)+1)∧ ∃(i' :Nat),((i:Int)+1)=(i' :Int)∧(i' ≤p.limits.length∧(p.limits.take i').all wK=true)∧p.limits.length - i' <p.limits.length - i)) ((true)=(cV p)∧True)))))))))))) (by kernel_rfl) ?_
 intro n0 n1 n2
 simp only[List.length_map] at n0 n1 n2
 refine⟨List.length_map _,nO _ _ _,dn (fun g16=>?_) fun g16=>?_⟩
 ·refine⟨?_,trivial⟩
  ·(exact(lM (by omega)).symm)
 ·refine⟨List.length_map _,dd (fun g22=>?_) fun g22=>?_⟩
  ·refine⟨?_,trivial⟩
   ·(exact(lM (by omega)).symm)
  ·refine⟨List.length_map _,List.length_map _,dn (fun c0=>?_) fun c0=>?_⟩
   ·refine⟨?_,trivial⟩
    ·(exact(lM (by omega)).symm)
   ·refine⟨rfl,rfl,by simp;omega,rfl,rfl,by simp;omega,List.length_map _,⟨0,rfl,Nat.zero_le _,rfl⟩,fun k ⟨hk,ha⟩=>?_⟩
    refine dd (fun c1=>?_) fun c1=>?_
    ·have hLk:k<65:=by simp at c1;omega
     refine⟨by omega,List.length_map _,by omega,rfl,by omega,fun e43 h43=>?_⟩
     have he43:=aWV hp (by omega) h43
     refine⟨List.length_map _,⟨0,rfl,Nat.zero_le _,rfl⟩,fun j ⟨hj,hb⟩=>?_⟩
     refine dd (fun c2=>?_) fun c2=>?_
     ·refine⟨by omega,rfl,by omega,fun e48 h48=>?_⟩
      refine⟨nO _ _ _,dn (fun c3=>?_) fun c3=>?_⟩
      ·refine⟨?_,trivial⟩
       ·(exact(vT h43 (aH2 h48 (decide_eq_false c3))).symm)
      ·refine⟨⟨by omega,by omega⟩,?_⟩
       exact⟨j+1,rfl,⟨by omega,cL h48 hb (decide_eq_true c3)⟩,by omega⟩
     ·refine⟨List.length_map _,dn (fun c4=>?_) fun c4=>?_⟩
      ·refine⟨?_,trivial⟩
       ·(exact(vT h43 (aKJ c4)).symm)
      ·refine⟨⟨by omega,by omega⟩,?_⟩
       exact⟨k+1,rfl,⟨by omega,cL h43 ha (aH3 (dC (by omega) hb) (by omega))⟩,by omega⟩
    ·have hrows:=dC (by omega) ha
     refine⟨List.length_map _,⟨0,rfl,Nat.zero_le _,rfl⟩,fun i ⟨hi,hc⟩=>?_⟩
     refine dd (fun c5=>?_) fun c5=>?_
     ·refine⟨by omega,rfl,by omega,fun e64 h64=>?_⟩
      refine⟨nO _ _ _,dn (fun c6=>?_) fun c6=>?_⟩
      ·refine⟨?_,trivial⟩
       ·(exact(aH1 h64 (decide_eq_false c6)).symm)
      ·refine⟨⟨by omega,by omega⟩,?_⟩
       exact⟨i+1,rfl,⟨by omega,cL h64 hc (decide_eq_true c6)⟩,by omega⟩
     ·refine⟨?_,trivial⟩
      ·(exact(aKI (by omega) hrows (dC (by omega) hc)).symm)
abbrev zN (p:bZ):Prop:=cH Tryz.prog 146 [.agg [.sl 3 1 (p.objective.map intD),.sl 91 1 (p.rows.map aC),.sl 3 1 (p.limits.map intD)]] (vB (cV p)) []
theorem aKL (p:bZ):zN p:=by
 refine aW bH aO Tryz.func146 (by kernel_rfl) (.len p.objective.length<| .call (vB (decide (1≤(p.objective.length:Int)∧(p.objective.length:Int)≤15))) []<| .br (.fin []) (.len p.rows.length<| .lit<| .lit<| .br (.fin []) (.len p.rows.length<| .len p.limits.length<| .lit<| .lit<| .br (.fin []) (.loop Nat (Q1 Nat) ([4]++rg 28 12) [] (fun k=>[(4,vI (k:Int))]) (fun k=>[]) (fun k=>k≤p.objective.length∧(p.objective.take k).all aAh=true) (fun k=>p.objective.length - k) (fun k=> .br (.elem _ intD p.objective (fun e36=> .call (vB (decide ((-9:Int)≤e36∧e36≤9))) []<| .br (.fin []) (.back []))) (.loop Nat (Q1 Nat) ([5,6]++rg 40 39) [] (fun i=>[(5,vI (i:Int))]) (fun i=>[]) (fun i=>i≤p.rows.length∧(p.rows.take i).all (jA p.objective.length)=true∧(p.limits.take i).all wK=true) (fun i=>p.rows.length - i) (fun i=> .len p.rows.length<| .br (.elem _ aC p.rows (fun e50=> .len e50.length<| .br (.fin []) (.elem _ intD p.limits (fun e59=> .call (vB (decide (0≤e59∧e59≤99))) []<| .lit<| .lit<| .br (.fin []) (.loop Nat (Q1 Nat) ([6]++rg 64 15) [] (fun j=>[(6,vI (j:Int))]) (fun j=>[]) (fun j=>j≤p.objective.length∧(e50.take j).all aAh=true) (fun j=>p.objective.length - j) (fun j=> .br (.elem _ aC p.rows (fun e72=> .elem _ intD e72 (fun e75=> .call (vB (decide ((-9:Int)≤e75∧e75≤9))) []<| .br (.fin []) (.back [])))) (.back []))))))) (.fin [])))))))) (p:=(p.objective.map intD).length≤9223372036854775807→(p.rows.map aC).length≤9223372036854775807→(p.limits.map intD).length≤9223372036854775807→Lm intD p.objective∧(fC (p.objective.length:Int) (1:Int) (15:Int)∧Nb (1≤(p.objective.length:Int)∧(p.objective.length:Int)≤15) ((false)=(cV p)∧True) (Lm aC p.rows∧Br (64<(p.rows.length:Int)) ((false)=(cV p)∧True) (Lm aC p.rows∧(Lm intD p.limits∧Nb ((p.rows.length:Int)=(p.limits.length:Int)) ((false)=(cV p)∧True) ((∃(k:Nat),0=(k:Int)∧k≤p.objective.length∧(p.objective.take k).all aAh=true)∧ ∀(k:Nat),(k≤p.objective.length∧(p.objective.take k).all aAh=true)→Br ((k:Int)<(p.objective.length:Int)) (0≤(k:Int)∧Em intD p.objective k fun e36=>fC e36 (-9:Int) (9:Int)∧Nb ((-9:Int)≤e36∧e36≤9) ((false)=(cV p)∧True) (bO ((k:Int)+1)∧ ∃(k' :Nat),((k:Int)+1)=(k' :Int)∧(k' ≤p.objective.length∧(p.objective.take k').all aAh=true)∧p.objective.length - k' <p.objective.length - k)) ((∃(i:Nat),0=(i:Int)∧i≤p.rows.length∧(p.rows.take i).all (jA p.objective.length)=true∧(p.limits.take i).all wK=true)∧ ∀(i:Nat),(i≤p.rows.length∧(p.rows.take i).all (jA p.objective.length)=true∧(p.limits.take i).all wK=true)→Lm aC p.rows∧Br ((i:Int)<(p.rows.length:Int)) (0≤(i:Int)∧Em aC p.rows i fun e50=>Lm intD e50∧Nb ((e50.length:Int)=(p.objective.length:Int)) ((false)=(cV p)∧True) (0≤(i:Int)∧Em intD p.limits i fun e59=>fC e59 (0:Int) (99:Int)∧Nb (0≤e59∧e59≤99) ((false)=(cV p)∧True) ((∃(j:Nat),0=(j:Int)∧j≤p.objective.length∧(e50.take j).all aAh=true)∧ ∀(j:Nat),(j≤p.objective.length∧(e50.take j).all aAh=true)→Br ((j:Int)<(p.objective.length:Int)) (0≤(i:Int)∧Em aC p.rows i fun e72=>0≤(j:Int)∧Em intD e72 j fun e75=>fC e75 (-9:Int) (9:Int)∧Nb ((-9:Int)≤e75∧e75≤9) ((false)=(cV p)∧True) (bO ((j:Int)+1)∧ ∃(j' :Nat),((j:Int)+1)=(j' :Int)∧(j' ≤p.objective.length∧(e50.take j').all aAh=true)∧p.objective.length - j' <p.objective.length - j)) (bO ((i:Int)+1)∧ ∃(i' :Nat),((i:Int)+1)=(i' :Int)∧(i' ≤p.rows.length∧(p.rows.take i').all (jA p.objective.length)=true∧(p.limits.take i').all wK=true)∧p.rows.length - i' <p.rows.length - i)))) ((true)=(cV p)∧True)))))))) (by kernel_rfl) ?_
 intro n0 n1 n2
 simp only[List.length_map] at n0 n1 n2
 refine⟨List.length_map _,iU _ _ _,dn (fun g13=>?_) fun g13=>?_⟩
 ·refine⟨?_,trivial⟩
  ·(exact(lM (by omega)).symm)
 ·refine⟨List.length_map _,dd (fun g19=>?_) fun g19=>?_⟩
  ·refine⟨?_,trivial⟩
   ·(exact(lM (by omega)).symm)
  ·refine⟨List.length_map _,List.length_map _,dn (fun c0=>?_) fun c0=>?_⟩
   ·refine⟨?_,trivial⟩
    ·(exact(lM (by omega)).symm)
   ·refine⟨⟨0,rfl,Nat.zero_le _,rfl⟩,fun k ⟨hk,ha⟩=>?_⟩
    refine dd (fun c1=>?_) fun c1=>?_
    ·refine⟨by omega,rfl,by omega,fun e36 h36=>?_⟩
     refine⟨iU _ _ _,dn (fun c2=>?_) fun c2=>?_⟩
     ·refine⟨?_,trivial⟩
      ·(exact(aOm (aH2 h36 (decide_eq_false c2))).symm)
     ·refine⟨⟨by omega,by omega⟩,?_⟩
      exact⟨k+1,rfl,⟨by omega,cL h36 ha (decide_eq_true c2)⟩,by omega⟩
    ·have hobj:=dC (by omega) ha
     refine⟨⟨0,rfl,Nat.zero_le _,rfl,rfl⟩,fun i ⟨hi,hr,hl⟩=>?_⟩
     refine⟨List.length_map _,dd (fun c3=>?_) fun c3=>?_⟩
     ·refine⟨by omega,rfl,by omega,fun e50 h50=>?_⟩
      refine⟨List.length_map _,dn (fun g55=>?_) fun g55=>?_⟩
      ·refine⟨?_,trivial⟩
       ·(exact(aEc h50 (aKJ g55)).symm)
      ·refine⟨by omega,rfl,by omega,fun e59 h59=>?_⟩
       refine⟨iU _ _ _,dn (fun c4=>?_) fun c4=>?_⟩
       ·refine⟨?_,trivial⟩
        ·(exact(aH1 h59 (decide_eq_false c4)).symm)
       ·refine⟨⟨0,rfl,Nat.zero_le _,rfl⟩,fun j ⟨hj,hb⟩=>?_⟩
        refine dd (fun c5=>?_) fun c5=>?_
        ·refine⟨by omega,rfl,by omega,fun e72 h72=>?_⟩
         obtain rfl:=(aZ h50 h72).symm
         refine⟨by omega,rfl,by omega,fun e75 h75=>?_⟩
         refine⟨iU _ _ _,dn (fun c6=>?_) fun c6=>?_⟩
         ·refine⟨?_,trivial⟩
          ·(exact(aEc h50 (aH2 h75 (decide_eq_false c6))).symm)
         ·refine⟨⟨by omega,by omega⟩,?_⟩
          exact⟨j+1,rfl,⟨by omega,cL h75 hb (decide_eq_true c6)⟩,by omega⟩
        ·refine⟨⟨by omega,by omega⟩,?_⟩
         exact⟨i+1,rfl,⟨by omega,cL h50 hr (aH3 (dC (by omega) hb) (by omega)),cL h59 hl (decide_eq_true c4)⟩,by omega⟩
     ·have hrows:(p.rows++[p.objective]).all (jA p.objective.length)=true:=by rw[List.all_append,dC (by omega) hr,List.all_cons,aH3 hobj rfl];rfl
      refine⟨?_,trivial⟩
      ·(exact(aKI (by omega) hrows (dC (by omega) hl)).symm)
end Go.Proofs.YtlidmoeecphbmaaGreat
