/-
  Contracts and plain laws, joined: part 5.
-/
import Derived.Test.YtokkjaflmcjlhaaGreatQD3
namespace Go.Proofs.YtokkjaflmcjlhaaGreat
open Go.ChangeShapes Go.WideShapes Go.ChangeAt Go.RowKit
set_option linter.unusedVariables false
set_option linter.unusedSimpArgs false
set_option maxRecDepth 100000
set_option maxHeartbeats 4000000
def bW:List Int→List Int→Int
 | [],[]=>0
 | [],_::_=> -1
 | _::_,[]=>1
 | a::l,b::m=>if a<b then -1 else if b<a then 1 else bW l m
theorem fA: ∀{l m:List Int},bW l m=0↔l=m
 | [],[]=>by simp [bW]
 | [],_::_=>by simp [bW]
 | _::_,[]=>by simp [bW]
 | a::l,b::m=>by
   unfold bW
   split
   ·simp;omega
   ·split
    ·simp;omega
    ·rw [fA]
     have:a=b:=by omega
     simp [this]
theorem kX {α:Type} {l:List α} {k:Nat} {x:α} (h:l[k]? =some x):l.drop k=x::l.drop (k+1):=by
 obtain ⟨hk,rfl⟩:=List.getElem?_eq_some_iff.1 h
 exact List.drop_eq_getElem_cons hk
theorem yF {α:Type} {l:List α} {k:Nat} (h:l.length≤k):l.drop k= []:=List.drop_eq_nil_of_le h
theorem cA {l m:List Int} {k:Nat} (hk:k≤l.length∧k≤m.length) (hs: ¬k<l.length∨ ¬k<m.length):bW (l.drop k) (m.drop k)=if l.length<m.length then -1 else if m.length<l.length then 1 else 0:=by
 by_cases h1:k<l.length
 ·obtain ⟨x,hx⟩:=bY h1
  rw [kX hx,yF (l:=m) (by omega),bW,if_neg (by omega),if_pos (by omega)]
 ·rw [yF (l:=l) (by omega)]
  by_cases h2:k<m.length
  ·obtain ⟨x,hx⟩:=bY h2
   rw [kX hx,bW,if_pos (by omega)]
  ·rw [yF (l:=m) (by omega),bW,if_neg (by omega),if_neg (by omega)]
abbrev gG (l:List Int) (m:List Int):Prop:=cU Tryz.prog 211 [.one (.sl 3 1 (l.map intD)),.one (.sl 3 1 (m.map intD))] (vI (bW l m)) []
theorem kD (l m:List Int):gG l m:=by
 refine aV bF aS Tryz.func211 (by kernel_rfl) (.loop Nat (Q1 Nat) [5,6,7,8,9,10,11,12,13,14,15,16,17,18,19,20,21,22,23,24,25,26,27,28,29,30,31,32,33,34,35] [] (fun k=>[(5,vI (k:Int))]) (fun k=>[]) (fun k=>(k≤l.length∧k≤m.length)∧bW (l.drop k) (m.drop k)=bW l m) (fun k=>l.length - k) (fun k=> .len l.length<| .br (.len m.length<| .lit<| .lit<| .br (.elem _ intD l (fun e20=> .elem _ intD m (fun e24=> .br (.fin []) (.elem _ intD l (fun e29=> .elem _ intD m (fun e33=> .br (.fin []) (.back []))))))) (.len l.length<| .len m.length<| .br (.fin []) (.len l.length<| .len m.length<| .br (.fin []) (.fin [])))) (.len l.length<| .len m.length<| .br (.fin []) (.len l.length<| .len m.length<| .br (.fin []) (.fin []))))) (p:=(l.map intD).length≤9223372036854775807→(m.map intD).length≤9223372036854775807→(∃(k:Nat),(0:Int)=(k:Int)∧(k≤l.length∧k≤m.length)∧bW (l.drop k) (m.drop k)=bW l m)∧ ∀(k:Nat),((k≤l.length∧k≤m.length)∧bW (l.drop k) (m.drop k)=bW l m)→Lm intD l∧(((decide ((k:Int)<((l.length:Nat):Int)))=true→Lm intD m∧(((decide ((k:Int)<((m.length:Nat):Int)))=true→0≤(k:Int)∧Em intD l k fun e20=>0≤(k:Int)∧Em intD m k fun e24=>((decide (e20<e24))=true→(-1:Int)=(bW l m)∧True)∧((decide (e20<e24))=false→0≤(k:Int)∧Em intD l k fun e29=>0≤(k:Int)∧Em intD m k fun e33=>((decide (e33<e29))=true→(1:Int)=(bW l m)∧True)∧((decide (e33<e29))=false→cG ((k:Int)+(1:Int))∧ ∃(k' :Nat),((k:Int)+(1:Int))=(k' :Int)∧((k' ≤l.length∧k' ≤m.length)∧bW (l.drop k') (m.drop k')=bW l m)∧l.length - k' <l.length - k)))∧((decide ((k:Int)<((m.length:Nat):Int)))=false→Lm intD l∧(Lm intD m∧(((decide (((l.length:Nat):Int)<((m.length:Nat):Int)))=true→(-1:Int)=(bW l m)∧True)∧((decide (((l.length:Nat):Int)<((m.length:Nat):Int)))=false→Lm intD l∧(Lm intD m∧(((decide (((m.length:Nat):Int)<((l.length:Nat):Int)))=true→(1:Int)=(bW l m)∧True)∧((decide (((m.length:Nat):Int)<((l.length:Nat):Int)))=false→(0:Int)=(bW l m)∧True)))))))))∧((decide ((k:Int)<((l.length:Nat):Int)))=false→Lm intD l∧(Lm intD m∧(((decide (((l.length:Nat):Int)<((m.length:Nat):Int)))=true→(-1:Int)=(bW l m)∧True)∧((decide (((l.length:Nat):Int)<((m.length:Nat):Int)))=false→Lm intD l∧(Lm intD m∧(((decide (((m.length:Nat):Int)<((l.length:Nat):Int)))=true→(1:Int)=(bW l m)∧True)∧((decide (((m.length:Nat):Int)<((l.length:Nat):Int)))=false→(0:Int)=(bW l m)∧True))))))))) (by kernel_rfl) ?_
 intro n0 n1
 simp only [List.length_map] at n0 n1
 refine ⟨⟨0,rfl,⟨Nat.zero_le _,Nat.zero_le _⟩,rfl⟩,fun k ⟨hk,hv⟩=>?_⟩
 refine ⟨List.length_map _,fun g10=>?_,fun g10=>?_⟩
 ·replace g10:=yq g10
  refine ⟨List.length_map _,fun c0=>?_,fun c0=>?_⟩
  ·replace c0:=yq c0
   obtain ⟨x,hx⟩:=bY (l:=l) (k:=k) (by omega)
   obtain ⟨y,hy⟩:=bY (l:=m) (k:=k) (by omega)
   have hd:bW l m=if x<y then -1 else if y<x then 1 else bW (l.drop (k+1)) (m.drop (k+1)):=by rw [←hv,kX hx,kX hy,bW]
   refine ⟨by omega,rfl,by omega,fun e20 h20=>?_⟩
   obtain rfl:=(aX hx h20).symm
   refine ⟨by omega,rfl,by omega,fun e24 h24=>?_⟩
   obtain rfl:=(aX hy h24).symm
   refine ⟨fun c1=>?_,fun c1=>?_⟩
   ·replace c1:=yq c1
    refine ⟨?_,trivial⟩
    ·first | (rw [hd,if_pos c1];done) | (rw [hd,if_neg c1,if_pos c2];done) | (rw [←hv,cA hk (by omega),if_pos (by omega)];done) | (rw [←hv,cA hk (by omega),if_neg (by omega),if_pos (by omega)];done) | (rw [←hv,cA hk (by omega),if_neg (by omega),if_neg (by omega)];done)
   ·replace c1:=nq c1
    refine ⟨by omega,rfl,by omega,fun e29 h29=>?_⟩
    obtain rfl:=(aX hx h29).symm
    refine ⟨by omega,rfl,by omega,fun e33 h33=>?_⟩
    obtain rfl:=(aX hy h33).symm
    refine ⟨fun c2=>?_,fun c2=>?_⟩
    ·replace c2:=yq c2
     refine ⟨?_,trivial⟩
     ·first | (rw [hd,if_pos c1];done) | (rw [hd,if_neg c1,if_pos c2];done) | (rw [←hv,cA hk (by omega),if_pos (by omega)];done) | (rw [←hv,cA hk (by omega),if_neg (by omega),if_pos (by omega)];done) | (rw [←hv,cA hk (by omega),if_neg (by omega),if_neg (by omega)];done)
    ·replace c2:=nq c2
     refine ⟨⟨by omega,by omega⟩,?_⟩
     exact ⟨k+1,rfl,⟨by omega,by rw [hd,if_neg c1,if_neg c2]⟩,by omega⟩
  ·replace c0:=nq c0
   refine ⟨List.length_map _,List.length_map _,fun c3=>?_,fun c3=>?_⟩
   ·replace c3:=yq c3
    refine ⟨?_,trivial⟩
    ·first | (rw [hd,if_pos c1];done) | (rw [hd,if_neg c1,if_pos c2];done) | (rw [←hv,cA hk (by omega),if_pos (by omega)];done) | (rw [←hv,cA hk (by omega),if_neg (by omega),if_pos (by omega)];done) | (rw [←hv,cA hk (by omega),if_neg (by omega),if_neg (by omega)];done)
   ·replace c3:=nq c3
    refine ⟨List.length_map _,List.length_map _,fun c4=>?_,fun c4=>?_⟩
    ·replace c4:=yq c4
     refine ⟨?_,trivial⟩
     ·first | (rw [hd,if_pos c1];done) | (rw [hd,if_neg c1,if_pos c2];done) | (rw [←hv,cA hk (by omega),if_pos (by omega)];done) | (rw [←hv,cA hk (by omega),if_neg (by omega),if_pos (by omega)];done) | (rw [←hv,cA hk (by omega),if_neg (by omega),if_neg (by omega)];done)
    ·replace c4:=nq c4
     refine ⟨?_,trivial⟩
     ·first | (rw [hd,if_pos c1];done) | (rw [hd,if_neg c1,if_pos c2];done) | (rw [←hv,cA hk (by omega),if_pos (by omega)];done) | (rw [←hv,cA hk (by omega),if_neg (by omega),if_pos (by omega)];done) | (rw [←hv,cA hk (by omega),if_neg (by omega),if_neg (by omega)];done)
 ·replace g10:=nq g10
  refine ⟨List.length_map _,List.length_map _,fun c3=>?_,fun c3=>?_⟩
  ·replace c3:=yq c3
   refine ⟨?_,trivial⟩
   ·first | (rw [hd,if_pos c1];done) | (rw [hd,if_neg c1,if_pos c2];done) | (rw [←hv,cA hk (by omega),if_pos (by omega)];done) | (rw [←hv,cA hk (by omega),if_neg (by omega),if_pos (by omega)];done) | (rw [←hv,cA hk (by omega),if_neg (by omega),if_neg (by omega)];done)
  ·replace c3:=nq c3
   refine ⟨List.length_map _,List.length_map _,fun c4=>?_,fun c4=>?_⟩
   ·replace c4:=yq c4
    refine ⟨?_,trivial⟩
    ·first | (rw [hd,if_pos c1];done) | (rw [hd,if_neg c1,if_pos c2];done) | (rw [←hv,cA hk (by omega),if_pos (by omega)];done) | (rw [←hv,cA hk (by omega),if_neg (by omega),if_pos (by omega)];done) | (rw [←hv,cA hk (by omega),if_neg (by omega),if_neg (by omega)];done)
   ·replace c4:=nq c4
    refine ⟨?_,trivial⟩
    ·first | (rw [hd,if_pos c1];done) | (rw [hd,if_neg c1,if_pos c2];done) | (rw [←hv,cA hk (by omega),if_pos (by omega)];done) | (rw [←hv,cA hk (by omega),if_neg (by omega),if_pos (by omega)];done) | (rw [←hv,cA hk (by omega),if_neg (by omega),if_neg (by omega)];done)
theorem aTF {x y:aH} (h1:x.columns=y.columns) (h2:x.values=y.values) (h3:x.counts=y.counts):x=y:=by
 obtain ⟨a,b,c⟩:=x
 obtain ⟨d,e,f⟩:=y
 simp at h1 h2 h3
 subst h1 h2 h3
 rfl
abbrev rL (a:aC) (b:aC):Prop:=cU Tryz.prog 204 [.agg [.str a.name,.int .i64 a.arity,.int .i64 a.rowCount,.sl 218 3 (a.groups.map aB)],.agg [.str b.name,.int .i64 b.arity,.int .i64 b.rowCount,.sl 218 3 (b.groups.map aB)]] (vB (decide (a=b))) []
theorem aBq (a b:aC) (ha:bA a≤1048576):rL a b:=by
 refine aV bF aS Tryz.func204 (by kernel_rfl) (.br (.fin []) (.lit<| .lit<| .lit<| .lit<| .lit<| .br (.fin []) (.lit<| .lit<| .lit<| .lit<| .lit<| .br (.fin []) (.len a.groups.length<| .len b.groups.length<| .lit<| .lit<| .br (.fin []) (.loop Nat (Q1 Nat) [5,6,7,8,37,38,39,40,41,42,43,44,45,46,47,48,49,50,51,52,53,54,55,56,57,58,59,60,61,62,63,64,65,66,67,68,69,70,71,72,73,74,75,76,77,78,79,80,81,82,83,84,85,86,87,88,89,90,91,92,93,94,95] [600,700] (fun i=>[(5,vI (i:Int))]) (fun i=>[]) (fun i=>i≤a.groups.length∧a.groups.take i=b.groups.take i) (fun i=>a.groups.length - i) (fun i=> .len a.groups.length<| .br (.elem _ aB a.groups (fun e47=> .elem _ aB b.groups (fun e52=> .call (vI (bW e47.columns e52.columns)) []<| .br (.fin []) (.call (vI (bW e47.counts e52.counts)) []<| .lit<| .lit<| .br (.fin []) (.len e47.values.length<| .len e52.values.length<| .lit<| .lit<| .br (.fin []) (.loop Nat (Q1 Nat) [8,77,78,79,80,81,82,83,84,85,86,87,88,89,90,91,92,93,94,95] [] (fun k=>[(8,vI (k:Int))]) (fun k=>[]) (fun k=>k≤e47.values.length∧e47.values.take k=e52.values.take k) (fun k=>e47.values.length - k) (fun k=> .len e47.values.length<| .br (.elem _ aF e47.values (fun e87=> .elem _ aF e52.values (fun e92=> .call (vI (bW e87 e92)) []<| .br (.fin []) (.back [])))) (.back [])))))))) (.fin []))))))) (p:=(a.groups.map aB).length≤9223372036854775807→(b.groups.map aB).length≤9223372036854775807→((!(a.name.toList==b.name.toList))=true→(false)=(decide (a=b))∧True)∧((!(a.name.toList==b.name.toList))=false→((!(decide (a.arity=b.arity)))=true→(false)=(decide (a=b))∧True)∧((!(decide (a.arity=b.arity)))=false→((!(decide (a.rowCount=b.rowCount)))=true→(false)=(decide (a=b))∧True)∧((!(decide (a.rowCount=b.rowCount)))=false→Lm aB a.groups∧(Lm aB b.groups∧(((!(decide (((a.groups.length:Nat):Int)=((b.groups.length:Nat):Int))))=true→(false)=(decide (a=b))∧True)∧((!(decide (((a.groups.length:Nat):Int)=((b.groups.length:Nat):Int))))=false→(∃(i:Nat),(0:Int)=(i:Int)∧i≤a.groups.length∧a.groups.take i=b.groups.take i)∧ ∀(i:Nat),(i≤a.groups.length∧a.groups.take i=b.groups.take i)→Lm aB a.groups∧(((decide ((i:Int)<((a.groups.length:Nat):Int)))=true→0≤(i:Int)∧Em aB a.groups i fun e47=>0≤(i:Int)∧Em aB b.groups i fun e52=>gG e47.columns e52.columns∧(((!(decide ((bW e47.columns e52.columns)=(0:Int))))=true→(false)=(decide (a=b))∧True)∧((!(decide ((bW e47.columns e52.columns)=(0:Int))))=false→gG e47.counts e52.counts∧(((!(decide ((bW e47.counts e52.counts)=(0:Int))))=true→(false)=(decide (a=b))∧True)∧((!(decide ((bW e47.counts e52.counts)=(0:Int))))=false→Lm aF e47.values∧(Lm aF e52.values∧(((!(decide (((e47.values.length:Nat):Int)=((e52.values.length:Nat):Int))))=true→(false)=(decide (a=b))∧True)∧((!(decide (((e47.values.length:Nat):Int)=((e52.values.length:Nat):Int))))=false→(∃(k:Nat),(0:Int)=(k:Int)∧k≤e47.values.length∧e47.values.take k=e52.values.take k)∧ ∀(k:Nat),(k≤e47.values.length∧e47.values.take k=e52.values.take k)→Lm aF e47.values∧(((decide ((k:Int)<((e47.values.length:Nat):Int)))=true→0≤(k:Int)∧Em aF e47.values k fun e87=>0≤(k:Int)∧Em aF e52.values k fun e92=>gG e87 e92∧(((!(decide ((bW e87 e92)=(0:Int))))=true→(false)=(decide (a=b))∧True)∧((!(decide ((bW e87 e92)=(0:Int))))=false→cG ((k:Int)+(1:Int))∧ ∃(k' :Nat),((k:Int)+(1:Int))=(k' :Int)∧(k' ≤e47.values.length∧e47.values.take k' =e52.values.take k')∧e47.values.length - k' <e47.values.length - k)))∧((decide ((k:Int)<((e47.values.length:Nat):Int)))=false→cG ((i:Int)+(1:Int))∧ ∃(i' :Nat),((i:Int)+(1:Int))=(i' :Int)∧(i' ≤a.groups.length∧a.groups.take i' =b.groups.take i')∧a.groups.length - i' <a.groups.length - i))))))))))∧((decide ((i:Int)<((a.groups.length:Nat):Int)))=false→(true)=(decide (a=b))∧True))))))))) (by kernel_rfl) ?_
 intro n0 n1
 simp only [List.length_map] at n0 n1
 refine ⟨fun g14=>?_,fun g14=>?_⟩
 ·replace g14:=nt g14
  refine ⟨?_,trivial⟩
  ·first | (simp [hne];done) | (rw [dA];simp_all [kC];done)
 ·replace g14:=nf g14
  refine ⟨fun g21=>?_,fun g21=>?_⟩
  ·replace g21:=nq (nt g21)
   refine ⟨?_,trivial⟩
   ·first | (simp [hne];done) | (rw [dA];simp_all [kC];done)
  ·replace g21:=yq (nf g21)
   refine ⟨fun g28=>?_,fun g28=>?_⟩
   ·replace g28:=nq (nt g28)
    refine ⟨?_,trivial⟩
    ·first | (simp [hne];done) | (rw [dA];simp_all [kC];done)
   ·replace g28:=yq (nf g28)
    refine ⟨List.length_map _,List.length_map _,fun c0=>?_,fun c0=>?_⟩
    ·replace c0:=nq (nt c0)
     have hne: ¬a=b:=fun e=>c0 (by rw [e])
     refine ⟨?_,trivial⟩
     ·first | (simp [hne];done) | (rw [dA];simp_all [kC];done)
    ·replace c0:=yq (nf c0)
     have hl:a.groups.length=b.groups.length:=by omega
     refine ⟨⟨0,rfl,Nat.zero_le _,rfl⟩,fun i ⟨hi,ht⟩=>?_⟩
     refine ⟨List.length_map _,fun c1=>?_,fun c1=>?_⟩
     ·replace c1:=yq c1
      refine ⟨by omega,rfl,by omega,fun e47 h47=>?_⟩
      have q1:=iR h47
      have q2:bA a=a.name.size+cR a.groups:=rfl
      have q3:bH e47=bZ e47.columns+cI e47.values+bZ e47.counts:=rfl
      have q4:=gA e47.values
      refine ⟨by omega,rfl,by omega,fun e52 h52=>?_⟩
      refine ⟨kD _ _,fun g60=>?_,fun g60=>?_⟩
      ·replace g60:=nq (nt g60)
       have hne: ¬a=b:=fun e=>by subst e;have q:=aX h47 h52;subst q;exact g60 (fA.2 rfl)
       refine ⟨?_,trivial⟩
       ·first | (simp [hne];done) | (rw [dA];simp_all [kC];done)
      ·replace g60:=yq (nf g60)
       refine ⟨kD _ _,fun g68=>?_,fun g68=>?_⟩
       ·replace g68:=nq (nt g68)
        have hne: ¬a=b:=fun e=>by subst e;have q:=aX h47 h52;subst q;exact g68 (fA.2 rfl)
        refine ⟨?_,trivial⟩
        ·first | (simp [hne];done) | (rw [dA];simp_all [kC];done)
       ·replace g68:=yq (nf g68)
        refine ⟨List.length_map _,List.length_map _,fun c2=>?_,fun c2=>?_⟩
        ·replace c2:=nq (nt c2)
         have hne: ¬a=b:=fun e=>by subst e;have q:=aX h47 h52;subst q;exact c2 rfl
         refine ⟨?_,trivial⟩
         ·first | (simp [hne];done) | (rw [dA];simp_all [kC];done)
        ·replace c2:=yq (nf c2)
         refine ⟨⟨0,rfl,Nat.zero_le _,rfl⟩,fun k ⟨hk,hv⟩=>?_⟩
         refine ⟨List.length_map _,fun c3=>?_,fun c3=>?_⟩
         ·replace c3:=yq c3
          refine ⟨by omega,rfl,by omega,fun e87 h87=>?_⟩
          refine ⟨by omega,rfl,by omega,fun e92 h92=>?_⟩
          refine ⟨kD _ _,fun c4=>?_,fun c4=>?_⟩
          ·replace c4:=nq (nt c4)
           have hne: ¬a=b:=fun e=>by subst e;have q:=aX h47 h52;subst q;have q:=aX h87 h92;subst q;exact c4 (fA.2 rfl)
           refine ⟨?_,trivial⟩
           ·first | (simp [hne];done) | (rw [dA];simp_all [kC];done)
          ·replace c4:=yq (nf c4)
           refine ⟨⟨by omega,by omega⟩,?_⟩
           exact ⟨k+1,rfl,⟨by omega,mM h87 (by rw [h92,fA.1 c4]) hv⟩,by omega⟩
         ·replace c3:=nq c3
          have hxy:e52=e47:=(aTF (fA.1 g60) (fT (by omega) (by omega) hv) (fA.1 g68)).symm
          refine ⟨⟨by omega,by omega⟩,?_⟩
          exact ⟨i+1,rfl,⟨by omega,mM h47 (by rw [h52,hxy]) ht⟩,by omega⟩
     ·replace c1:=nq c1
      have hg:=fT (by omega) hl ht
      refine ⟨?_,trivial⟩
      ·first | (simp [hne];done) | (rw [dA];simp_all [kC];done)
abbrev aBr (a:bS) (b:bS):Prop:=cU Tryz.prog 129 [.agg [.int .i64 a.version,.sl 121 4 (a.tables.map aA)],.agg [.int .i64 b.version,.sl 121 4 (b.tables.map aA)]] (vB (decide (a=b))) []
theorem aL3 (a b:bS) (ha:bL a≤1048576):aBr a b:=by
 refine aV bF aS Tryz.func129 (by kernel_rfl) (.br (.fin []) (.len a.tables.length<| .len b.tables.length<| .lit<| .lit<| .br (.fin []) (.loop Nat (Q1 Nat) [5,20,21,22,23,24,25,26,27,28,29,30,31,32,33,34,35,36,37,38] [] (fun k=>[(5,vI (k:Int))]) (fun k=>[]) (fun k=>k≤a.tables.length∧a.tables.take k=b.tables.take k) (fun k=>a.tables.length - k) (fun k=> .len a.tables.length<| .br (.elem _ aA a.tables (fun e30=> .elem _ aA b.tables (fun e35=> .call (vB (decide (e30=e35))) []<| .br (.fin []) (.back [])))) (.fin []))))) (p:=(a.tables.map aA).length≤9223372036854775807→(b.tables.map aA).length≤9223372036854775807→((!(decide (a.version=b.version)))=true→(false)=(decide (a=b))∧True)∧((!(decide (a.version=b.version)))=false→Lm aA a.tables∧(Lm aA b.tables∧(((!(decide (((a.tables.length:Nat):Int)=((b.tables.length:Nat):Int))))=true→(false)=(decide (a=b))∧True)∧((!(decide (((a.tables.length:Nat):Int)=((b.tables.length:Nat):Int))))=false→(∃(k:Nat),(0:Int)=(k:Int)∧k≤a.tables.length∧a.tables.take k=b.tables.take k)∧ ∀(k:Nat),(k≤a.tables.length∧a.tables.take k=b.tables.take k)→Lm aA a.tables∧(((decide ((k:Int)<((a.tables.length:Nat):Int)))=true→0≤(k:Int)∧Em aA a.tables k fun e30=>0≤(k:Int)∧Em aA b.tables k fun e35=>rL e30 e35∧(((!(decide (e30=e35)))=true→(false)=(decide (a=b))∧True)∧((!(decide (e30=e35)))=false→cG ((k:Int)+(1:Int))∧ ∃(k' :Nat),((k:Int)+(1:Int))=(k' :Int)∧(k' ≤a.tables.length∧a.tables.take k' =b.tables.take k')∧a.tables.length - k' <a.tables.length - k)))∧((decide ((k:Int)<((a.tables.length:Nat):Int)))=false→(true)=(decide (a=b))∧True))))))) (by kernel_rfl) ?_
 intro n0 n1
 simp only [List.length_map] at n0 n1
 have hS:bL a=dE a.tables:=rfl
 refine ⟨fun g11=>?_,fun g11=>?_⟩
 ·replace g11:=nq (nt g11)
  refine ⟨?_,trivial⟩
  ·first | (simp [hne];done) | (rw [iB];simp_all;done)
 ·replace g11:=yq (nf g11)
  refine ⟨List.length_map _,List.length_map _,fun c0=>?_,fun c0=>?_⟩
  ·replace c0:=nq (nt c0)
   have hne: ¬a=b:=fun e=>c0 (by rw [e])
   refine ⟨?_,trivial⟩
   ·first | (simp [hne];done) | (rw [iB];simp_all;done)
  ·replace c0:=yq (nf c0)
   have hl:a.tables.length=b.tables.length:=by omega
   refine ⟨⟨0,rfl,Nat.zero_le _,rfl⟩,fun k ⟨hk,ht⟩=>?_⟩
   refine ⟨List.length_map _,fun c1=>?_,fun c1=>?_⟩
   ·replace c1:=yq c1
    refine ⟨by omega,rfl,by omega,fun e30 h30=>?_⟩
    refine ⟨by omega,rfl,by omega,fun e35 h35=>?_⟩
    refine ⟨aBq _ _ (by have:=mB h30;omega),fun c2=>?_,fun c2=>?_⟩
    ·replace c2:=nq (nt c2)
     have hne: ¬a=b:=fun e=>by subst e;exact c2 (aX h35 h30)
     refine ⟨?_,trivial⟩
     ·first | (simp [hne];done) | (rw [iB];simp_all;done)
    ·replace c2:=yq (nf c2)
     refine ⟨⟨by omega,by omega⟩,?_⟩
     exact ⟨k+1,rfl,⟨by omega,mM h30 (by rw [h35,c2]) ht⟩,by omega⟩
   ·replace c1:=nq c1
    have hg:=fT (by omega) hl ht
    refine ⟨?_,trivial⟩
    ·first | (simp [hne];done) | (rw [iB];simp_all;done)
abbrev fU (n:Int) (a:Int) (b:Int):Prop:=cU Tryz.prog 102 [.one (.int .i64 n),.one (.int .i64 a),.one (.int .i64 b)] (vB (dY n a b)) []
theorem kE (n a b:Int):fU n a b:=by
 refine aV bF aS Tryz.func102 (by kernel_rfl) (.br (.fin []) (.fin [])) (p:=((decide (a≤n))=true→(decide (n≤b))=(dY n a b)∧True)∧((decide (a≤n))=false→(false)=(dY n a b)∧True)) (by kernel_rfl) ?_
 refine ⟨fun g10=>?_,fun g10=>?_⟩
 ·replace g10:=yq g10
  refine ⟨?_,trivial⟩
  ·first | (simp [dY,g10];done) | (simp [dY];omega)
 ·replace g10:=nq g10
  refine ⟨?_,trivial⟩
  ·first | (simp [dY,g10];done) | (simp [dY];omega)
abbrev fB (n:Int) (a:Int) (b:Int):Prop:=cU Tryz.prog 99 [.one (.int .i64 n),.one (.int .i64 a),.one (.int .i64 b)] (vB (dY n a b)) []
theorem iW (n a b:Int):fB n a b:=by
 refine aV bF aS Tryz.func99 (by kernel_rfl) (.br (.fin []) (.fin [])) (p:=((decide (a≤n))=true→(decide (n≤b))=(dY n a b)∧True)∧((decide (a≤n))=false→(false)=(dY n a b)∧True)) (by kernel_rfl) ?_
 refine ⟨fun g10=>?_,fun g10=>?_⟩
 ·replace g10:=yq g10
  refine ⟨?_,trivial⟩
  ·first | (simp [dY,g10];done) | (simp [dY];omega)
 ·replace g10:=nq g10
  refine ⟨?_,trivial⟩
  ·first | (simp [dY,g10];done) | (simp [dY];omega)
def aBs (v:Int):Bool:=dY v 0 9
def gU (n:Int) (r:List Int):Bool:=r.all aBs&&decide ((r.length:Int)=n)
def dW (s:ByteArray):Bool:=decide ((s.size:Int)=1)&&(decide (97≤rH s 0)&&decide (rH s 0≤122))
abbrev aFX (r:List Int) (n:Int):Prop:=cU Tryz.prog 226 [.one (.sl 3 1 (r.map intD)),.one (.int .i64 n)] (vB (gU n r)) []
theorem aP8 (r:List Int) (n:Int):aFX r n:=by
 refine aV bF aS Tryz.func226 (by kernel_rfl) (.len r.length<| .loop Nat (Q1 Nat) [6,9,10,11,12,13,14,15,16] [] (fun k=>[(9,vI (k:Int))]) (fun k=>[]) (fun k=>k≤r.length∧(r.take k).all aBs=true) (fun k=>r.length - k) (fun k=> .br (.elem _ intD r (fun e11=> .call (vB (dY e11 (0:Int) (9:Int))) []<| .br (.fin []) (.back []))) (.len r.length<| .fin []))) (p:=(r.map intD).length≤9223372036854775807→Lm intD r∧((∃(k:Nat),(0:Int)=(k:Int)∧k≤r.length∧(r.take k).all aBs=true)∧ ∀(k:Nat),(k≤r.length∧(r.take k).all aBs=true)→((decide ((k:Int)<((r.length:Nat):Int)))=true→0≤(k:Int)∧Em intD r k fun e11=>fU e11 (0:Int) (9:Int)∧(((!(dY e11 (0:Int) (9:Int)))=true→(false)=(gU n r)∧True)∧((!(dY e11 (0:Int) (9:Int)))=false→cG ((k:Int)+(1:Int))∧ ∃(k' :Nat),((k:Int)+(1:Int))=(k' :Int)∧(k' ≤r.length∧(r.take k').all aBs=true)∧r.length - k' <r.length - k)))∧((decide ((k:Int)<((r.length:Nat):Int)))=false→Lm intD r∧(decide (((r.length:Nat):Int)=n))=(gU n r)∧True))) (by kernel_rfl) ?_
 intro n0
 simp only [List.length_map] at n0
 refine ⟨List.length_map _,⟨0,rfl,Nat.zero_le _,rfl⟩,fun k ⟨hk,ha⟩=>?_⟩
 refine ⟨fun c0=>?_,fun c0=>?_⟩
 ·replace c0:=yq c0
  refine ⟨by omega,rfl,by omega,fun e11 h11=>?_⟩
  refine ⟨kE _ _ _,fun c1=>?_,fun c1=>?_⟩
  ·replace c1:=nt c1
   refine ⟨?_,trivial⟩
   ·first | (rw [gU,cE h11 c1];rfl) | (rw [gU,bJ (by omega) ha];simp)
  ·replace c1:=nf c1
   refine ⟨⟨by omega,by omega⟩,?_⟩
   exact ⟨k+1,rfl,⟨by omega,cY h11 ha c1⟩,by omega⟩
 ·replace c0:=nq c0
  refine ⟨List.length_map _,?_,trivial⟩
  ·first | (rw [gU,cE h11 c1];rfl) | (rw [gU,bJ (by omega) ha];simp)
abbrev aFY (r:List Int) (n:Int):Prop:=cU Tryz.prog 208 [.one (.sl 3 1 (r.map intD)),.one (.int .i64 n)] (vB (gU n r)) []
theorem aP9 (r:List Int) (n:Int):aFY r n:=by
 refine aV bF aS Tryz.func208 (by kernel_rfl) (.loop Nat (Q1 Nat) [5,6,7,8,9,10,11,12,13,14,15,16,17] [] (fun k=>[(5,vI (k:Int))]) (fun k=>[]) (fun k=>k≤r.length∧(r.take k).all aBs=true) (fun k=>r.length - k) (fun k=> .len r.length<| .br (.elem _ intD r (fun e14=> .call (vB (dY e14 (0:Int) (9:Int))) []<| .br (.fin []) (.back []))) (.len r.length<| .fin []))) (p:=(r.map intD).length≤9223372036854775807→(∃(k:Nat),(0:Int)=(k:Int)∧k≤r.length∧(r.take k).all aBs=true)∧ ∀(k:Nat),(k≤r.length∧(r.take k).all aBs=true)→Lm intD r∧(((decide ((k:Int)<((r.length:Nat):Int)))=true→0≤(k:Int)∧Em intD r k fun e14=>fB e14 (0:Int) (9:Int)∧(((!(dY e14 (0:Int) (9:Int)))=true→(false)=(gU n r)∧True)∧((!(dY e14 (0:Int) (9:Int)))=false→cG ((k:Int)+(1:Int))∧ ∃(k' :Nat),((k:Int)+(1:Int))=(k' :Int)∧(k' ≤r.length∧(r.take k').all aBs=true)∧r.length - k' <r.length - k)))∧((decide ((k:Int)<((r.length:Nat):Int)))=false→Lm intD r∧(decide (((r.length:Nat):Int)=n))=(gU n r)∧True))) (by kernel_rfl) ?_
 intro n0
 simp only [List.length_map] at n0
 refine ⟨⟨0,rfl,Nat.zero_le _,rfl⟩,fun k ⟨hk,ha⟩=>?_⟩
 refine ⟨List.length_map _,fun c0=>?_,fun c0=>?_⟩
 ·replace c0:=yq c0
  refine ⟨by omega,rfl,by omega,fun e14 h14=>?_⟩
  refine ⟨iW _ _ _,fun c1=>?_,fun c1=>?_⟩
  ·replace c1:=nt c1
   refine ⟨?_,trivial⟩
   ·first | (rw [gU,cE h14 c1];rfl) | (rw [gU,bJ (by omega) ha];simp)
  ·replace c1:=nf c1
   refine ⟨⟨by omega,by omega⟩,?_⟩
   exact ⟨k+1,rfl,⟨by omega,cY h14 ha c1⟩,by omega⟩
 ·replace c0:=nq c0
  refine ⟨List.length_map _,?_,trivial⟩
  ·first | (rw [gU,cE h14 c1];rfl) | (rw [gU,bJ (by omega) ha];simp)
abbrev yG (s:ByteArray):Prop:=cU Tryz.prog 253 [.one (.str s)] (vB (dW s)) []
theorem aHm (s:ByteArray):yG s:=by
 refine aV bF aS Tryz.func253 (by kernel_rfl) (.br (.lit<| .lit<| .lit<| .br (.fin []) (.fin [])) (.fin [])) (p:=((decide (((s.size:Nat):Int)=(1:Int)))=true→0≤(0:Int)∧(0:Int)<((s.size:Nat):Int)∧(((decide ((97:Int)≤(rH s 0)))=true→0≤(0:Int)∧(0:Int)<((s.size:Nat):Int)∧(decide ((rH s 0)≤(122:Int)))=(dW s)∧True)∧((decide ((97:Int)≤(rH s 0)))=false→(false)=(dW s)∧True)))∧((decide (((s.size:Nat):Int)=(1:Int)))=false→(false)=(dW s)∧True)) (by kernel_rfl) ?_
 refine ⟨fun g6=>?_,fun g6=>?_⟩
 ·replace g6:=yq g6
  refine ⟨by omega,by omega,fun g11=>?_,fun g11=>?_⟩
  ·replace g11:=yq g11
   refine ⟨by omega,by omega,?_,trivial⟩
   ·first | (simp [dW,g6];done) | (simp [dW,g6,g11];done) | (simp [dW, *];done)
  ·replace g11:=nq g11
   refine ⟨?_,trivial⟩
   ·first | (simp [dW,g6];done) | (simp [dW,g6,g11];done) | (simp [dW, *];done)
 ·replace g6:=nq g6
  refine ⟨?_,trivial⟩
  ·first | (simp [dW,g6];done) | (simp [dW,g6,g11];done) | (simp [dW, *];done)
abbrev yH (s:ByteArray):Prop:=cU Tryz.prog 243 [.one (.str s)] (vB (dW s)) []
theorem aHn (s:ByteArray):yH s:=by
 refine aV bF aS Tryz.func243 (by kernel_rfl) (.br (.lit<| .lit<| .lit<| .br (.fin []) (.fin [])) (.fin [])) (p:=((decide (((s.size:Nat):Int)=(1:Int)))=true→0≤(0:Int)∧(0:Int)<((s.size:Nat):Int)∧(((decide ((97:Int)≤(rH s 0)))=true→0≤(0:Int)∧(0:Int)<((s.size:Nat):Int)∧(decide ((rH s 0)≤(122:Int)))=(dW s)∧True)∧((decide ((97:Int)≤(rH s 0)))=false→(false)=(dW s)∧True)))∧((decide (((s.size:Nat):Int)=(1:Int)))=false→(false)=(dW s)∧True)) (by kernel_rfl) ?_
 refine ⟨fun g6=>?_,fun g6=>?_⟩
 ·replace g6:=yq g6
  refine ⟨by omega,by omega,fun g11=>?_,fun g11=>?_⟩
  ·replace g11:=yq g11
   refine ⟨by omega,by omega,?_,trivial⟩
   ·first | (simp [dW,g6];done) | (simp [dW,g6,g11];done) | (simp [dW, *];done)
  ·replace g11:=nq g11
   refine ⟨?_,trivial⟩
   ·first | (simp [dW,g6];done) | (simp [dW,g6,g11];done) | (simp [dW, *];done)
 ·replace g6:=nq g6
  refine ⟨?_,trivial⟩
  ·first | (simp [dW,g6];done) | (simp [dW,g6,g11];done) | (simp [dW, *];done)
abbrev aCw (n:Int):Prop:=cU Tryz.prog 314 [.one (.int .i64 n)] (vB false) []
theorem aM1 (n:Int):aCw n:=by
 refine aV bF aS Tryz.func314 (by kernel_rfl) (.fin []) (p:=(!(decide (n=n)))=false∧True) (by kernel_rfl) ?_
 refine ⟨?_,trivial⟩
 ·simp
def sD (a b:Int):Int:=if a<b then -1 else if b<a then 1 else 0
abbrev aHo (a:Int) (b:Int):Prop:=cU Tryz.prog 308 [.one (.int .i64 a),.one (.int .i64 b)] (vI (sD a b)) []
theorem aR9 (a b:Int):aHo a b:=by
 refine aV bF aS Tryz.func308 (by kernel_rfl) (.call (vB false) []<| .call (vB false) []<| .lit<| .lit<| .br (.fin []) (.br (.fin []) (.fin []))) (p:=aCw a∧(aCw b∧(((decide (a<b))=true→(-1:Int)=(sD a b)∧True)∧((decide (a<b))=false→((decide (b<a))=true→(1:Int)=(sD a b)∧True)∧((decide (b<a))=false→(0:Int)=(sD a b)∧True))))) (by kernel_rfl) ?_
 refine ⟨aM1 _,aM1 _,fun c3=>?_,fun c3=>?_⟩
 ·replace c3:=yq c3
  refine ⟨?_,trivial⟩
  ·simp [sD, *];try omega
 ·replace c3:=nq c3
  refine ⟨fun c4=>?_,fun c4=>?_⟩
  ·replace c4:=yq c4
   refine ⟨?_,trivial⟩
   ·simp [sD, *];try omega
  ·replace c4:=nq c4
   refine ⟨?_,trivial⟩
   ·simp [sD, *];try omega
theorem aHp (a b:Int) (l m:List Int):bW (a::l) (b::m)=if sD a b=0 then bW l m else sD a b:=by
 unfold sD
 rw [bW]
 by_cases h1:a<b
 ·simp [h1]
 ·by_cases h2:b<a
  ·simp [h1,h2]
  ·simp [h1,h2]
abbrev aPa (l:List Int) (m:List Int):Prop:=cU Tryz.prog 285 [.one (.sl 3 1 (l.map intD)),.one (.sl 3 1 (m.map intD))] (vI (bW l m)) []
theorem aUF (l m:List Int):aPa l m:=by
 refine aV bF aS Tryz.func285 (by kernel_rfl) (.len l.length<| .loop Nat (Q1 Nat) [5,6,7,8,11,12,13,14,15,16,17,18,19,20,21,22,23,24,25,26,27,28,30] [] (fun k=>[(11,vI (k:Int))]) (fun k=>[]) (fun k=>(k≤l.length∧k≤m.length)∧bW (l.drop k) (m.drop k)=bW l m) (fun k=>l.length - k) (fun k=> .br (.elem _ intD l (fun e14=> .len m.length<| .br (.fin []) (.elem _ intD m (fun e22=> .call (vI (sD e14 e22)) []<| .br (.fin []) (.back []))))) (.len l.length<| .len m.length<| .br (.fin []) (.fin [])))) (p:=(l.map intD).length≤9223372036854775807→(m.map intD).length≤9223372036854775807→Lm intD l∧((∃(k:Nat),(0:Int)=(k:Int)∧(k≤l.length∧k≤m.length)∧bW (l.drop k) (m.drop k)=bW l m)∧ ∀(k:Nat),((k≤l.length∧k≤m.length)∧bW (l.drop k) (m.drop k)=bW l m)→((decide ((k:Int)<((l.length:Nat):Int)))=true→0≤(k:Int)∧Em intD l k fun e14=>Lm intD m∧(((decide (((m.length:Nat):Int)≤(k:Int)))=true→(1:Int)=(bW l m)∧True)∧((decide (((m.length:Nat):Int)≤(k:Int)))=false→0≤(k:Int)∧Em intD m k fun e22=>aHo e14 e22∧(((!(decide ((sD e14 e22)=(0:Int))))=true→(sD e14 e22)=(bW l m)∧True)∧((!(decide ((sD e14 e22)=(0:Int))))=false→cG ((k:Int)+(1:Int))∧ ∃(k' :Nat),((k:Int)+(1:Int))=(k' :Int)∧((k' ≤l.length∧k' ≤m.length)∧bW (l.drop k') (m.drop k')=bW l m)∧l.length - k' <l.length - k)))))∧((decide ((k:Int)<((l.length:Nat):Int)))=false→Lm intD l∧(Lm intD m∧(((decide (((l.length:Nat):Int)<((m.length:Nat):Int)))=true→(-1:Int)=(bW l m)∧True)∧((decide (((l.length:Nat):Int)<((m.length:Nat):Int)))=false→(0:Int)=(bW l m)∧True)))))) (by kernel_rfl) ?_
 intro n0 n1
 simp only [List.length_map] at n0 n1
 refine ⟨List.length_map _,⟨0,rfl,⟨Nat.zero_le _,Nat.zero_le _⟩,rfl⟩,fun k ⟨hk,hv⟩=>?_⟩
 refine ⟨fun c0=>?_,fun c0=>?_⟩
 ·replace c0:=yq c0
  obtain ⟨x,hx⟩:=bY (l:=l) (k:=k) (by omega)
  refine ⟨by omega,rfl,by omega,fun e14 h14=>?_⟩
  obtain rfl:=(aX hx h14).symm
  refine ⟨List.length_map _,fun c1=>?_,fun c1=>?_⟩
  ·replace c1:=yq c1
   refine ⟨?_,trivial⟩
   ·first | (rw [hd,if_neg c2];done) | (rw [←hv,cA hk (by omega),if_neg (by omega),if_pos (by omega)];done) | (rw [←hv,cA hk (by omega),if_pos (by omega)];done) | (rw [←hv,cA hk (by omega),if_neg (by omega),if_neg (by omega)];done)
  ·replace c1:=nq c1
   obtain ⟨y,hy⟩:=bY (l:=m) (k:=k) (by omega)
   have hd:bW l m=if sD x y=0 then bW (l.drop (k+1)) (m.drop (k+1)) else sD x y:=by rw [←hv,kX hx,kX hy,aHp]
   refine ⟨by omega,rfl,by omega,fun e22 h22=>?_⟩
   obtain rfl:=(aX hy h22).symm
   refine ⟨aR9 _ _,fun c2=>?_,fun c2=>?_⟩
   ·replace c2:=nq (nt c2)
    refine ⟨?_,trivial⟩
    ·first | (rw [hd,if_neg c2];done) | (rw [←hv,cA hk (by omega),if_neg (by omega),if_pos (by omega)];done) | (rw [←hv,cA hk (by omega),if_pos (by omega)];done) | (rw [←hv,cA hk (by omega),if_neg (by omega),if_neg (by omega)];done)
   ·replace c2:=yq (nf c2)
    refine ⟨⟨by omega,by omega⟩,?_⟩
    exact ⟨k+1,rfl,⟨by omega,by rw [hd,if_pos c2]⟩,by omega⟩
 ·replace c0:=nq c0
  refine ⟨List.length_map _,List.length_map _,fun c3=>?_,fun c3=>?_⟩
  ·replace c3:=yq c3
   refine ⟨?_,trivial⟩
   ·first | (rw [hd,if_neg c2];done) | (rw [←hv,cA hk (by omega),if_neg (by omega),if_pos (by omega)];done) | (rw [←hv,cA hk (by omega),if_pos (by omega)];done) | (rw [←hv,cA hk (by omega),if_neg (by omega),if_neg (by omega)];done)
  ·replace c3:=nq c3
   refine ⟨?_,trivial⟩
   ·first | (rw [hd,if_neg c2];done) | (rw [←hv,cA hk (by omega),if_neg (by omega),if_pos (by omega)];done) | (rw [←hv,cA hk (by omega),if_pos (by omega)];done) | (rw [←hv,cA hk (by omega),if_neg (by omega),if_neg (by omega)];done)
abbrev yI (l:List Int) (m:List Int):Prop:=cU Tryz.prog 269 [.one (.sl 3 1 (l.map intD)),.one (.sl 3 1 (m.map intD))] (vI (bW l m)) []
theorem aIr (l m:List Int):yI l m:=by
 refine aV bF aS Tryz.func269 (by kernel_rfl) (.call (vI (bW l m)) []<| .fin []) (p:=(l.map intD).length≤9223372036854775807→(m.map intD).length≤9223372036854775807→aPa l m∧(bW l m)=(bW l m)∧True) (by kernel_rfl) ?_
 intro n0 n1
 simp only [List.length_map] at n0 n1
 refine ⟨aUF _ _,?_⟩
 exact ⟨rfl,trivial⟩
def lY (l:List (List Int)) (i:Nat):Bool:=decide (bW (l.getD i []) (l.getD (i+1) [])<0)
def aAt (l:List (List Int)):Bool:=(List.range (l.length - 1)).all (lY l)
def aQ (t:aR):Bool:=t.rows.all (gU t.arity)&&(dW t.name&&(dY t.arity 1 3&&(decide ((t.rows.length:Int)≤8)&&aAt t.rows)))
theorem jG {p:Nat→Bool} {k:Nat} (h:(List.range k).all p=true) (hk:p k=true):(List.range (k+1)).all p=true:=by
 rw [List.range_succ,List.all_append,h];simp [hk]
theorem fF {p:Nat→Bool} {n k:Nat} (hk:k<n) (h:p k=false):(List.range n).all p=false:=by
 rw [List.all_eq_false];exact ⟨k,List.mem_range.2 hk,by simp [h]⟩
theorem aZ {α:Type} {l:List α} {k:Nat} {x y:α} (h:l[k]? =some x):l.getD k y=x:=by simp [List.getD_eq_getElem?_getD,h]
abbrev aFZ (l:List (List Int)):Prop:=cU Tryz.prog 264 [.one (.sl 32 1 (l.map aF))] (vB (aAt l)) []
theorem aPb (l:List (List Int)):aFZ l:=by
 refine aV bF aS Tryz.func264 (by kernel_rfl) (.loop Nat (Q1 Nat) [3,4,5,6,7,8,9,10,11,12,13,14,15,16,17,18,19,20] [] (fun k=>[(3,vI (((k:Nat):Int)+1))]) (fun k=>[]) (fun k=>(k+1≤l.length∨k=0)∧(List.range k).all (lY l)=true) (fun k=>l.length - k) (fun k=> .len l.length<| .br (.elem _ aF l (fun e13=> .elem _ aF l (fun e17=> .call (vI (bW e13 e17)) []<| .br (.fin []) (.back [])))) (.fin []))) (p:=(l.map aF).length≤9223372036854775807→(∃(k:Nat),(1:Int)=(((k:Nat):Int)+1)∧(k+1≤l.length∨k=0)∧(List.range k).all (lY l)=true)∧ ∀(k:Nat),((k+1≤l.length∨k=0)∧(List.range k).all (lY l)=true)→Lm aF l∧(((decide ((((k:Nat):Int)+1)<((l.length:Nat):Int)))=true→cG ((((k:Nat):Int)+1) - (1:Int))∧(0≤((((k:Nat):Int)+1) - (1:Int))∧Em aF l (((((k:Nat):Int)+1) - (1:Int)).toNat) fun e13=>0≤(((k:Nat):Int)+1)∧Em aF l (k+1) fun e17=>yI e13 e17∧(((decide ((0:Int)≤(bW e13 e17)))=true→(false)=(aAt l)∧True)∧((decide ((0:Int)≤(bW e13 e17)))=false→cG ((((k:Nat):Int)+1)+(1:Int))∧ ∃(k' :Nat),((((k:Nat):Int)+1)+(1:Int))=(((k' :Nat):Int)+1)∧((k' +1≤l.length∨k' =0)∧(List.range k').all (lY l)=true)∧l.length - k' <l.length - k))))∧((decide ((((k:Nat):Int)+1)<((l.length:Nat):Int)))=false→(true)=(aAt l)∧True))) (by kernel_rfl) ?_
 intro n0
 simp only [List.length_map] at n0
 refine ⟨⟨0,rfl,.inr rfl,rfl⟩,fun k ⟨hk,ha⟩=>?_⟩
 refine ⟨List.length_map _,fun c0=>?_,fun c0=>?_⟩
 ·replace c0:=yq c0
  refine ⟨⟨by omega,by omega⟩,by omega,rfl,by omega,fun e13 h13=>?_⟩
  have i13:l[k]? =some e13:=by rw [←h13];congr 1;omega
  refine ⟨by omega,rfl,by omega,fun e17 h17=>?_⟩
  refine ⟨aIr _ _,fun c1=>?_,fun c1=>?_⟩
  ·replace c1:=yq c1
   have hp:lY l k=false:=by rw [lY,aZ i13,aZ h17];simp;omega
   refine ⟨?_,trivial⟩
   ·first | (rw [aAt,fF (by omega) hp];done) | (rw [aAt,show l.length - 1=k by omega,ha];done)
  ·replace c1:=nq c1
   have hp:lY l k=true:=by rw [lY,aZ i13,aZ h17];simp;omega
   refine ⟨⟨by omega,by omega⟩,?_⟩
   exact ⟨k+1,rfl,⟨by omega,jG ha hp⟩,by omega⟩
 ·replace c0:=nq c0
  refine ⟨?_,trivial⟩
  ·first | (rw [aAt,fF (by omega) hp];done) | (rw [aAt,show l.length - 1=k by omega,ha];done)
abbrev rM (t:aR):Prop:=cU Tryz.prog 225 [.agg [.str t.name,.int .i64 t.arity,.sl 32 1 (t.rows.map aF)]] (vB (aQ t)) []
theorem yJ (t:aR):rM t:=by
 refine aV bF aS Tryz.func225 (by kernel_rfl) (.len t.rows.length<| .loop Nat (Q1 Nat) [4,8,9,10,11,12,13,14,15,16,17] [] (fun k=>[(8,vI (k:Int))]) (fun k=>[]) (fun k=>k≤t.rows.length∧(t.rows.take k).all (gU t.arity)=true) (fun k=>t.rows.length - k) (fun k=> .br (.elem _ aF t.rows (fun e10=> .call (vB (gU t.arity e10)) []<| .br (.fin []) (.back []))) (.call (vB (dW t.name)) []<| .br (.call (vB (dY t.arity (1:Int) (3:Int))) []<| .lit<| .br (.len t.rows.length<| .lit<| .lit<| .br (.call (vB (aAt t.rows)) []<| .fin []) (.fin [])) (.fin [])) (.fin [])))) (p:=(t.rows.map aF).length≤9223372036854775807→Lm aF t.rows∧((∃(k:Nat),(0:Int)=(k:Int)∧k≤t.rows.length∧(t.rows.take k).all (gU t.arity)=true)∧ ∀(k:Nat),(k≤t.rows.length∧(t.rows.take k).all (gU t.arity)=true)→((decide ((k:Int)<((t.rows.length:Nat):Int)))=true→0≤(k:Int)∧Em aF t.rows k fun e10=>aFX e10 t.arity∧(((!(gU t.arity e10))=true→(false)=(aQ t)∧True)∧((!(gU t.arity e10))=false→cG ((k:Int)+(1:Int))∧ ∃(k' :Nat),((k:Int)+(1:Int))=(k' :Int)∧(k' ≤t.rows.length∧(t.rows.take k').all (gU t.arity)=true)∧t.rows.length - k' <t.rows.length - k)))∧((decide ((k:Int)<((t.rows.length:Nat):Int)))=false→yG t.name∧(((dW t.name)=true→fU t.arity (1:Int) (3:Int)∧(((dY t.arity (1:Int) (3:Int))=true→Lm aF t.rows∧(((decide (((t.rows.length:Nat):Int)≤(8:Int)))=true→aFZ t.rows∧(aAt t.rows)=(aQ t)∧True)∧((decide (((t.rows.length:Nat):Int)≤(8:Int)))=false→(false)=(aQ t)∧True)))∧((dY t.arity (1:Int) (3:Int))=false→(false)=(aQ t)∧True)))∧((dW t.name)=false→(false)=(aQ t)∧True))))) (by kernel_rfl) ?_
 intro n0
 simp only [List.length_map] at n0
 refine ⟨List.length_map _,⟨0,rfl,Nat.zero_le _,rfl⟩,fun k ⟨hk,ha⟩=>?_⟩
 refine ⟨fun c0=>?_,fun c0=>?_⟩
 ·replace c0:=yq c0
  refine ⟨by omega,rfl,by omega,fun e10 h10=>?_⟩
  refine ⟨aP8 _ _,fun c1=>?_,fun c1=>?_⟩
  ·replace c1:=nt c1
   refine ⟨?_,trivial⟩
   ·first | (rw [aQ,cE h10 c1];rfl) | (simp [aQ,hall, *];done)
  ·replace c1:=nf c1
   refine ⟨⟨by omega,by omega⟩,?_⟩
   exact ⟨k+1,rfl,⟨by omega,cY h10 ha c1⟩,by omega⟩
 ·replace c0:=nq c0
  have hall:=bJ (by omega) ha
  refine ⟨aHm _,fun g21=>?_,fun g21=>?_⟩
  ·refine ⟨kE _ _ _,fun g26=>?_,fun g26=>?_⟩
   ·refine ⟨List.length_map _,fun g32=>?_,fun g32=>?_⟩
    ·replace g32:=yq g32
     refine ⟨aPb _,?_,trivial⟩
     ·first | (rw [aQ,cE h10 c1];rfl) | (simp [aQ,hall, *];done)
    ·replace g32:=nq g32
     refine ⟨?_,trivial⟩
     ·first | (rw [aQ,cE h10 c1];rfl) | (simp [aQ,hall, *];done)
   ·refine ⟨?_,trivial⟩
    ·first | (rw [aQ,cE h10 c1];rfl) | (simp [aQ,hall, *];done)
  ·refine ⟨?_,trivial⟩
   ·first | (rw [aQ,cE h10 c1];rfl) | (simp [aQ,hall, *];done)
abbrev oB (t:aR):Prop:=cU Tryz.prog 207 [.agg [.str t.name,.int .i64 t.arity,.sl 32 1 (t.rows.map aF)]] (vB (aQ t)) []
theorem yK (t:aR):oB t:=by
 refine aV bF aS Tryz.func207 (by kernel_rfl) (.call (vB (dW t.name)) []<| .br (.fin []) (.call (vB (dY t.arity (1:Int) (3:Int))) []<| .lit<| .lit<| .br (.fin []) (.len t.rows.length<| .lit<| .lit<| .br (.fin []) (.loop Nat (Q1 Nat) [3,20,21,22,23,24,25,26,27,28,29,30,31,32,33,34,35,36,37,38,39,40,41,42,43,44,45,46,47,48,49,50,51,52,53,54] [] (fun k=>[(3,vI (k:Int))]) (fun k=>[]) (fun k=>k≤t.rows.length∧(t.rows.take k).all (gU t.arity)=true∧(List.range (k - 1)).all (lY t.rows)=true) (fun k=>t.rows.length - k) (fun k=> .len t.rows.length<| .br (.elem _ aF t.rows (fun e30=> .call (vB (gU t.arity e30)) []<| .br (.fin []) (.lit<| .lit<| .br (.elem _ aF t.rows (fun e44=> .elem _ aF t.rows (fun e49=> .call (vI (bW e44 e49)) []<| .lit<| .lit<| .lit<| .lit<| .br (.fin []) (.back [])))) (.back [])))) (.fin [])))))) (p:=(t.rows.map aF).length≤9223372036854775807→yH t.name∧(((!(dW t.name))=true→(false)=(aQ t)∧True)∧((!(dW t.name))=false→fB t.arity (1:Int) (3:Int)∧(((!(dY t.arity (1:Int) (3:Int)))=true→(false)=(aQ t)∧True)∧((!(dY t.arity (1:Int) (3:Int)))=false→Lm aF t.rows∧(((decide ((8:Int)<((t.rows.length:Nat):Int)))=true→(false)=(aQ t)∧True)∧((decide ((8:Int)<((t.rows.length:Nat):Int)))=false→(∃(k:Nat),(0:Int)=(k:Int)∧k≤t.rows.length∧(t.rows.take k).all (gU t.arity)=true∧(List.range (k - 1)).all (lY t.rows)=true)∧ ∀(k:Nat),(k≤t.rows.length∧(t.rows.take k).all (gU t.arity)=true∧(List.range (k - 1)).all (lY t.rows)=true)→Lm aF t.rows∧(((decide ((k:Int)<((t.rows.length:Nat):Int)))=true→0≤(k:Int)∧Em aF t.rows k fun e30=>aFY e30 t.arity∧(((!(gU t.arity e30))=true→(false)=(aQ t)∧True)∧((!(gU t.arity e30))=false→((decide ((0:Int)<(k:Int)))=true→cG ((k:Int) - (1:Int))∧(0≤((k:Int) - (1:Int))∧Em aF t.rows (((k:Int) - (1:Int)).toNat) fun e44=>0≤(k:Int)∧Em aF t.rows k fun e49=>gG e44 e49∧(((decide ((0:Int)≤(bW e44 e49)))=true→(false)=(aQ t)∧True)∧((decide ((0:Int)≤(bW e44 e49)))=false→cG ((k:Int)+(1:Int))∧ ∃(k' :Nat),((k:Int)+(1:Int))=(k' :Int)∧(k' ≤t.rows.length∧(t.rows.take k').all (gU t.arity)=true∧(List.range (k' - 1)).all (lY t.rows)=true)∧t.rows.length - k' <t.rows.length - k))))∧((decide ((0:Int)<(k:Int)))=false→cG ((k:Int)+(1:Int))∧ ∃(k' :Nat),((k:Int)+(1:Int))=(k' :Int)∧(k' ≤t.rows.length∧(t.rows.take k').all (gU t.arity)=true∧(List.range (k' - 1)).all (lY t.rows)=true)∧t.rows.length - k' <t.rows.length - k))))∧((decide ((k:Int)<((t.rows.length:Nat):Int)))=false→(true)=(aQ t)∧True))))))))) (by kernel_rfl) ?_
 intro n0
 simp only [List.length_map] at n0
 refine ⟨aHn _,fun g8=>?_,fun g8=>?_⟩
 ·replace g8:=nt g8
  refine ⟨?_,trivial⟩
  ·first | (rw [aQ,cE h30 g36];rfl) | (rw [aQ,h8,hz];simp [*];done) | (rw [aQ,hz];simp [*];done) | (rw [aQ,h8];simp [*];done) | (simp [aQ, *];done)
 ·replace g8:=nf g8
  refine ⟨iW _ _ _,fun g14=>?_,fun g14=>?_⟩
  ·replace g14:=nt g14
   refine ⟨?_,trivial⟩
   ·first | (rw [aQ,cE h30 g36];rfl) | (rw [aQ,h8,hz];simp [*];done) | (rw [aQ,hz];simp [*];done) | (rw [aQ,h8];simp [*];done) | (simp [aQ, *];done)
  ·replace g14:=nf g14
   refine ⟨List.length_map _,fun c0=>?_,fun c0=>?_⟩
   ·replace c0:=yq c0
    have h8:decide ((t.rows.length:Int)≤8)=false:=by simp;omega
    refine ⟨?_,trivial⟩
    ·first | (rw [aQ,cE h30 g36];rfl) | (rw [aQ,h8,hz];simp [*];done) | (rw [aQ,hz];simp [*];done) | (rw [aQ,h8];simp [*];done) | (simp [aQ, *];done)
   ·replace c0:=nq c0
    have h8:decide ((t.rows.length:Int)≤8)=true:=by simp;omega
    refine ⟨⟨0,rfl,Nat.zero_le _,rfl,rfl⟩,fun k ⟨hk,ha,hs⟩=>?_⟩
    refine ⟨List.length_map _,fun c1=>?_,fun c1=>?_⟩
    ·replace c1:=yq c1
     refine ⟨by omega,rfl,by omega,fun e30 h30=>?_⟩
     refine ⟨aP9 _ _,fun g36=>?_,fun g36=>?_⟩
     ·replace g36:=nt g36
      refine ⟨?_,trivial⟩
      ·first | (rw [aQ,cE h30 g36];rfl) | (rw [aQ,h8,hz];simp [*];done) | (rw [aQ,hz];simp [*];done) | (rw [aQ,h8];simp [*];done) | (simp [aQ, *];done)
     ·replace g36:=nf g36
      refine ⟨fun g39=>?_,fun g39=>?_⟩
      ·replace g39:=yq g39
       refine ⟨⟨by omega,by omega⟩,by omega,rfl,by omega,fun e44 h44=>?_⟩
       have i44:t.rows[k - 1]? =some e44:=by rw [←h44];congr 1;omega
       refine ⟨by omega,rfl,by omega,fun e49 h49=>?_⟩
       refine ⟨kD _ _,fun c2=>?_,fun c2=>?_⟩
       ·replace c2:=yq c2
        have hp:lY t.rows (k - 1)=false:=by rw [lY,aZ i44,show k - 1+1=k by omega,aZ h49];simp;omega
        have hz:aAt t.rows=false:=fF (by omega) hp
        refine ⟨?_,trivial⟩
        ·first | (rw [aQ,cE h30 g36];rfl) | (rw [aQ,h8,hz];simp [*];done) | (rw [aQ,hz];simp [*];done) | (rw [aQ,h8];simp [*];done) | (simp [aQ, *];done)
       ·replace c2:=nq c2
        have hp:lY t.rows (k - 1)=true:=by rw [lY,aZ i44,show k - 1+1=k by omega,aZ h49];simp;omega
        have hs2:(List.range (k+1 - 1)).all (lY t.rows)=true:=by rw [show k+1 - 1=(k - 1)+1 by omega];exact jG hs hp
        refine ⟨⟨by omega,by omega⟩,?_⟩
        exact ⟨k+1,rfl,⟨by omega,cY h30 ha g36,hs2⟩,by omega⟩
      ·replace g39:=nq g39
       have hs2:(List.range (k+1 - 1)).all (lY t.rows)=true:=by rw [show k=0 by omega];rfl
       refine ⟨⟨by omega,by omega⟩,?_⟩
       exact ⟨k+1,rfl,⟨by omega,cY h30 ha g36,hs2⟩,by omega⟩
    ·replace c1:=nq c1
     have hall:=bJ (by omega) ha
     have hz:aAt t.rows=true:=by rw [aAt,show t.rows.length - 1=k - 1 by omega,hs]
     refine ⟨?_,trivial⟩
     ·first | (rw [aQ,cE h30 g36];rfl) | (rw [aQ,h8,hz];simp [*];done) | (rw [aQ,hz];simp [*];done) | (rw [aQ,h8];simp [*];done) | (simp [aQ, *];done)
end Go.Proofs.YtokkjaflmcjlhaaGreat
