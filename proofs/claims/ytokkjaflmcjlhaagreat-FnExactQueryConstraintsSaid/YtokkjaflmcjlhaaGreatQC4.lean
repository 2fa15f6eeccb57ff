/-
  Contracts and plain laws, joined: part 5.
-/
import Derived.Test.YtokkjaflmcjlhaaGreatQC3
namespace Go.Proofs.YtokkjaflmcjlhaaGreat
open Go.ChangeShapes Go.WideShapes Go.ChangeAt Go.RowKit
set_option linter.unusedVariables false
set_option linter.unusedSimpArgs false
set_option maxRecDepth 100000
set_option maxHeartbeats 4000000
def bV:List Int→List Int→Int
 | [],[]=>0
 | [],_::_=> -1
 | _::_,[]=>1
 | a::l,b::m=>if a<b then -1 else if b<a then 1 else bV l m
theorem eI: ∀{l m:List Int},bV l m=0↔l=m
 | [],[]=>by simp [bV]
 | [],_::_=>by simp [bV]
 | _::_,[]=>by simp [bV]
 | a::l,b::m=>by
   unfold bV
   split
   ·simp;omega
   ·split
    ·simp;omega
    ·rw [eI]
     have:a=b:=by omega
     simp [this]
theorem kS {α:Type} {l:List α} {k:Nat} {x:α} (h:l[k]? =some x):l.drop k=x::l.drop (k+1):=by
 obtain ⟨hk,rfl⟩:=List.getElem?_eq_some_iff.1 h
 exact List.drop_eq_getElem_cons hk
theorem wM {α:Type} {l:List α} {k:Nat} (h:l.length≤k):l.drop k= []:=List.drop_eq_nil_of_le h
theorem cB {l m:List Int} {k:Nat} (hk:k≤l.length∧k≤m.length) (hs: ¬k<l.length∨ ¬k<m.length):bV (l.drop k) (m.drop k)=if l.length<m.length then -1 else if m.length<l.length then 1 else 0:=by
 by_cases h1:k<l.length
 ·obtain ⟨x,hx⟩:=cC h1
  rw [kS hx,wM (l:=m) (by omega),bV,if_neg (by omega),if_pos (by omega)]
 ·rw [wM (l:=l) (by omega)]
  by_cases h2:k<m.length
  ·obtain ⟨x,hx⟩:=cC h2
   rw [kS hx,bV,if_pos (by omega)]
  ·rw [wM (l:=m) (by omega),bV,if_neg (by omega),if_neg (by omega)]
abbrev fM (l:List Int) (m:List Int):Prop:=dG Tryz.prog 211 [.one (.sl 3 1 (l.map intD)),.one (.sl 3 1 (m.map intD))] (vI (bV l m)) []
theorem iI (l m:List Int):fM l m:=by
 refine aY bK aU Tryz.func211 (by kernel_rfl) (.loop Nat (Q1 Nat) [5,6,7,8,9,10,11,12,13,14,15,16,17,18,19,20,21,22,23,24,25,26,27,28,29,30,31,32,33,34,35] [] (fun k=>[(5,vI (k:Int))]) (fun k=>[]) (fun k=>(k≤l.length∧k≤m.length)∧bV (l.drop k) (m.drop k)=bV l m) (fun k=>l.length - k) (fun k=> .len l.length<| .br (.len m.length<| .lit<| .lit<| .br (.elem _ intD l (fun e20=> .elem _ intD m (fun e24=> .br (.fin []) (.elem _ intD l (fun e29=> .elem _ intD m (fun e33=> .br (.fin []) (.back []))))))) (.len l.length<| .len m.length<| .br (.fin []) (.len l.length<| .len m.length<| .br (.fin []) (.fin [])))) (.len l.length<| .len m.length<| .br (.fin []) (.len l.length<| .len m.length<| .br (.fin []) (.fin []))))) (p:=(l.map intD).length≤9223372036854775807→(m.map intD).length≤9223372036854775807→(∃(k:Nat),(0:Int)=(k:Int)∧(k≤l.length∧k≤m.length)∧bV (l.drop k) (m.drop k)=bV l m)∧ ∀(k:Nat),((k≤l.length∧k≤m.length)∧bV (l.drop k) (m.drop k)=bV l m)→Lm intD l∧(((decide ((k:Int)<((l.length:Nat):Int)))=true→Lm intD m∧(((decide ((k:Int)<((m.length:Nat):Int)))=true→0≤(k:Int)∧Em intD l k fun e20=>0≤(k:Int)∧Em intD m k fun e24=>((decide (e20<e24))=true→(-1:Int)=(bV l m)∧True)∧((decide (e20<e24))=false→0≤(k:Int)∧Em intD l k fun e29=>0≤(k:Int)∧Em intD m k fun e33=>((decide (e33<e29))=true→(1:Int)=(bV l m)∧True)∧((decide (e33<e29))=false→dB ((k:Int)+(1:Int))∧ ∃(k' :Nat),((k:Int)+(1:Int))=(k' :Int)∧((k' ≤l.length∧k' ≤m.length)∧bV (l.drop k') (m.drop k')=bV l m)∧l.length - k' <l.length - k)))∧((decide ((k:Int)<((m.length:Nat):Int)))=false→Lm intD l∧(Lm intD m∧(((decide (((l.length:Nat):Int)<((m.length:Nat):Int)))=true→(-1:Int)=(bV l m)∧True)∧((decide (((l.length:Nat):Int)<((m.length:Nat):Int)))=false→Lm intD l∧(Lm intD m∧(((decide (((m.length:Nat):Int)<((l.length:Nat):Int)))=true→(1:Int)=(bV l m)∧True)∧((decide (((m.length:Nat):Int)<((l.length:Nat):Int)))=false→(0:Int)=(bV l m)∧True)))))))))∧((decide ((k:Int)<((l.length:Nat):Int)))=false→Lm intD l∧(Lm intD m∧(((decide (((l.length:Nat):Int)<((m.length:Nat):Int)))=true→(-1:Int)=(bV l m)∧True)∧((decide (((l.length:Nat):Int)<((m.length:Nat):Int)))=false→Lm intD l∧(Lm intD m∧(((decide (((m.length:Nat):Int)<((l.length:Nat):Int)))=true→(1:Int)=(bV l m)∧True)∧((decide (((m.length:Nat):Int)<((l.length:Nat):Int)))=false→(0:Int)=(bV l m)∧True))))))))) (by kernel_rfl) ?_
 intro n0 n1
 simp only [List.length_map] at n0 n1
 refine ⟨⟨0,rfl,⟨Nat.zero_le _,Nat.zero_le _⟩,rfl⟩,fun k ⟨hk,hv⟩=>?_⟩
 refine ⟨List.length_map _,fun g10=>?_,fun g10=>?_⟩
 ·replace g10:=yq g10
  refine ⟨List.length_map _,fun c0=>?_,fun c0=>?_⟩
  ·replace c0:=yq c0
   obtain ⟨x,hx⟩:=cC (l:=l) (k:=k) (by omega)
   obtain ⟨y,hy⟩:=cC (l:=m) (k:=k) (by omega)
   have hd:bV l m=if x<y then -1 else if y<x then 1 else bV (l.drop (k+1)) (m.drop (k+1)):=by rw [←hv,kS hx,kS hy,bV]
   refine ⟨by omega,rfl,by omega,fun e20 h20=>?_⟩
   obtain rfl:=(bA hx h20).symm
   refine ⟨by omega,rfl,by omega,fun e24 h24=>?_⟩
   obtain rfl:=(bA hy h24).symm
   refine ⟨fun c1=>?_,fun c1=>?_⟩
   ·replace c1:=yq c1
    refine ⟨?_,trivial⟩
    ·first | (rw [hd,if_pos c1];done) | (rw [hd,if_neg c1,if_pos c2];done) | (rw [←hv,cB hk (by omega),if_pos (by omega)];done) | (rw [←hv,cB hk (by omega),if_neg (by omega),if_pos (by omega)];done) | (rw [←hv,cB hk (by omega),if_neg (by omega),if_neg (by omega)];done)
   ·replace c1:=nq c1
    refine ⟨by omega,rfl,by omega,fun e29 h29=>?_⟩
    obtain rfl:=(bA hx h29).symm
    refine ⟨by omega,rfl,by omega,fun e33 h33=>?_⟩
    obtain rfl:=(bA hy h33).symm
    refine ⟨fun c2=>?_,fun c2=>?_⟩
    ·replace c2:=yq c2
     refine ⟨?_,trivial⟩
     ·first | (rw [hd,if_pos c1];done) | (rw [hd,if_neg c1,if_pos c2];done) | (rw [←hv,cB hk (by omega),if_pos (by omega)];done) | (rw [←hv,cB hk (by omega),if_neg (by omega),if_pos (by omega)];done) | (rw [←hv,cB hk (by omega),if_neg (by omega),if_neg (by omega)];done)
    ·replace c2:=nq c2
     refine ⟨⟨by omega,by omega⟩,?_⟩
     exact ⟨k+1,rfl,⟨by omega,by rw [hd,if_neg c1,if_neg c2]⟩,by omega⟩
  ·replace c0:=nq c0
   refine ⟨List.length_map _,List.length_map _,fun c3=>?_,fun c3=>?_⟩
   ·replace c3:=yq c3
    refine ⟨?_,trivial⟩
    ·first | (rw [hd,if_pos c1];done) | (rw [hd,if_neg c1,if_pos c2];done) | (rw [←hv,cB hk (by omega),if_pos (by omega)];done) | (rw [←hv,cB hk (by omega),if_neg (by omega),if_pos (by omega)];done) | (rw [←hv,cB hk (by omega),if_neg (by omega),if_neg (by omega)];done)
   ·replace c3:=nq c3
    refine ⟨List.length_map _,List.length_map _,fun c4=>?_,fun c4=>?_⟩
    ·replace c4:=yq c4
     refine ⟨?_,trivial⟩
     ·first | (rw [hd,if_pos c1];done) | (rw [hd,if_neg c1,if_pos c2];done) | (rw [←hv,cB hk (by omega),if_pos (by omega)];done) | (rw [←hv,cB hk (by omega),if_neg (by omega),if_pos (by omega)];done) | (rw [←hv,cB hk (by omega),if_neg (by omega),if_neg (by omega)];done)
    ·replace c4:=nq c4
     refine ⟨?_,trivial⟩
     ·first | (rw [hd,if_pos c1];done) | (rw [hd,if_neg c1,if_pos c2];done) | (rw [←hv,cB hk (by omega),if_pos (by omega)];done) | (rw [←hv,cB hk (by omega),if_neg (by omega),if_pos (by omega)];done) | (rw [←hv,cB hk (by omega),if_neg (by omega),if_neg (by omega)];done)
 ·replace g10:=nq g10
  refine ⟨List.length_map _,List.length_map _,fun c3=>?_,fun c3=>?_⟩
  ·replace c3:=yq c3
   refine ⟨?_,trivial⟩
   ·first | (rw [hd,if_pos c1];done) | (rw [hd,if_neg c1,if_pos c2];done) | (rw [←hv,cB hk (by omega),if_pos (by omega)];done) | (rw [←hv,cB hk (by omega),if_neg (by omega),if_pos (by omega)];done) | (rw [←hv,cB hk (by omega),if_neg (by omega),if_neg (by omega)];done)
  ·replace c3:=nq c3
   refine ⟨List.length_map _,List.length_map _,fun c4=>?_,fun c4=>?_⟩
   ·replace c4:=yq c4
    refine ⟨?_,trivial⟩
    ·first | (rw [hd,if_pos c1];done) | (rw [hd,if_neg c1,if_pos c2];done) | (rw [←hv,cB hk (by omega),if_pos (by omega)];done) | (rw [←hv,cB hk (by omega),if_neg (by omega),if_pos (by omega)];done) | (rw [←hv,cB hk (by omega),if_neg (by omega),if_neg (by omega)];done)
   ·replace c4:=nq c4
    refine ⟨?_,trivial⟩
    ·first | (rw [hd,if_pos c1];done) | (rw [hd,if_neg c1,if_pos c2];done) | (rw [←hv,cB hk (by omega),if_pos (by omega)];done) | (rw [←hv,cB hk (by omega),if_neg (by omega),if_pos (by omega)];done) | (rw [←hv,cB hk (by omega),if_neg (by omega),if_neg (by omega)];done)
theorem aRI {x y:aG} (h1:x.columns=y.columns) (h2:x.values=y.values) (h3:x.counts=y.counts):x=y:=by
 obtain ⟨a,b,c⟩:=x
 obtain ⟨d,e,f⟩:=y
 simp at h1 h2 h3
 subst h1 h2 h3
 rfl
abbrev qI (a:aB) (b:aB):Prop:=dG Tryz.prog 204 [.agg [.str a.name,.int .i64 a.arity,.int .i64 a.rowCount,.sl 218 3 (a.groups.map aA)],.agg [.str b.name,.int .i64 b.arity,.int .i64 b.rowCount,.sl 218 3 (b.groups.map aA)]] (vB (decide (a=b))) []
theorem aBF (a b:aB) (ha:aW a≤1048576):qI a b:=by
 refine aY bK aU Tryz.func204 (by kernel_rfl) (.br (.fin []) (.lit<| .lit<| .lit<| .lit<| .lit<| .br (.fin []) (.lit<| .lit<| .lit<| .lit<| .lit<| .br (.fin []) (.len a.groups.length<| .len b.groups.length<| .lit<| .lit<| .br (.fin []) (.loop Nat (Q1 Nat) [5,6,7,8,37,38,39,40,41,42,43,44,45,46,47,48,49,50,51,52,53,54,55,56,57,58,59,60,61,62,63,64,65,66,67,68,69,70,71,72,73,74,75,76,77,78,79,80,81,82,83,84,85,86,87,88,89,90,91,92,93,94,95] [600,700] (fun i=>[(5,vI (i:Int))]) (fun i=>[]) (fun i=>i≤a.groups.length∧a.groups.take i=b.groups.take i) (fun i=>a.groups.length - i) (fun i=> .len a.groups.length<| .br (.elem _ aA a.groups (fun e47=> .elem _ aA b.groups (fun e52=> .call (vI (bV e47.columns e52.columns)) []<| .br (.fin []) (.call (vI (bV e47.counts e52.counts)) []<| .lit<| .lit<| .br (.fin []) (.len e47.values.length<| .len e52.values.length<| .lit<| .lit<| .br (.fin []) (.loop Nat (Q1 Nat) [8,77,78,79,80,81,82,83,84,85,86,87,88,89,90,91,92,93,94,95] [] (fun k=>[(8,vI (k:Int))]) (fun k=>[]) (fun k=>k≤e47.values.length∧e47.values.take k=e52.values.take k) (fun k=>e47.values.length - k) (fun k=> .len e47.values.length<| .br (.elem _ aE e47.values (fun e87=> .elem _ aE e52.values (fun e92=> .call (vI (bV e87 e92)) []<| .br (.fin []) (.back [])))) (.back [])))))))) (.fin []))))))) (p:=(a.groups.map aA).length≤9223372036854775807→(b.groups.map aA).length≤9223372036854775807→((!(a.name.toList==b.name.toList))=true→(false)=(decide (a=b))∧True)∧((!(a.name.toList==b.name.toList))=false→((!(decide (a.arity=b.arity)))=true→(false)=(decide (a=b))∧True)∧((!(decide (a.arity=b.arity)))=false→((!(decide (a.rowCount=b.rowCount)))=true→(false)=(decide (a=b))∧True)∧((!(decide (a.rowCount=b.rowCount)))=false→Lm aA a.groups∧(Lm aA b.groups∧(((!(decide (((a.groups.length:Nat):Int)=((b.groups.length:Nat):Int))))=true→(false)=(decide (a=b))∧True)∧((!(decide (((a.groups.length:Nat):Int)=((b.groups.length:Nat):Int))))=false→(∃(i:Nat),(0:Int)=(i:Int)∧i≤a.groups.length∧a.groups.take i=b.groups.take i)∧ ∀(i:Nat),(i≤a.groups.length∧a.groups.take i=b.groups.take i)→Lm aA a.groups∧(((decide ((i:Int)<((a.groups.length:Nat):Int)))=true→0≤(i:Int)∧Em aA a.groups i fun e47=>0≤(i:Int)∧Em aA b.groups i fun e52=>fM e47.columns e52.columns∧(((!(decide ((bV e47.columns e52.columns)=(0:Int))))=true→(false)=(decide (a=b))∧True)∧((!(decide ((bV e47.columns e52.columns)=(0:Int))))=false→fM e47.counts e52.counts∧(((!(decide ((bV e47.counts e52.counts)=(0:Int))))=true→(false)=(decide (a=b))∧True)∧((!(decide ((bV e47.counts e52.counts)=(0:Int))))=false→Lm aE e47.values∧(Lm aE e52.values∧(((!(decide (((e47.values.length:Nat):Int)=((e52.values.length:Nat):Int))))=true→(false)=(decide (a=b))∧True)∧((!(decide (((e47.values.length:Nat):Int)=((e52.values.length:Nat):Int))))=false→(∃(k:Nat),(0:Int)=(k:Int)∧k≤e47.values.length∧e47.values.take k=e52.values.take k)∧ ∀(k:Nat),(k≤e47.values.length∧e47.values.take k=e52.values.take k)→Lm aE e47.values∧(((decide ((k:Int)<((e47.values.length:Nat):Int)))=true→0≤(k:Int)∧Em aE e47.values k fun e87=>0≤(k:Int)∧Em aE e52.values k fun e92=>fM e87 e92∧(((!(decide ((bV e87 e92)=(0:Int))))=true→(false)=(decide (a=b))∧True)∧((!(decide ((bV e87 e92)=(0:Int))))=false→dB ((k:Int)+(1:Int))∧ ∃(k' :Nat),((k:Int)+(1:Int))=(k' :Int)∧(k' ≤e47.values.length∧e47.values.take k' =e52.values.take k')∧e47.values.length - k' <e47.values.length - k)))∧((decide ((k:Int)<((e47.values.length:Nat):Int)))=false→dB ((i:Int)+(1:Int))∧ ∃(i' :Nat),((i:Int)+(1:Int))=(i' :Int)∧(i' ≤a.groups.length∧a.groups.take i' =b.groups.take i')∧a.groups.length - i' <a.groups.length - i))))))))))∧((decide ((i:Int)<((a.groups.length:Nat):Int)))=false→(true)=(decide (a=b))∧True))))))))) (by kernel_rfl) ?_
 intro n0 n1
 simp only [List.length_map] at n0 n1
 refine ⟨fun g14=>?_,fun g14=>?_⟩
 ·replace g14:=nt g14
  refine ⟨?_,trivial⟩
  ·first | (simp [hne];done) | (rw [dC];simp_all [jZ];done)
 ·replace g14:=nf g14
  refine ⟨fun g21=>?_,fun g21=>?_⟩
  ·replace g21:=nq (nt g21)
   refine ⟨?_,trivial⟩
   ·first | (simp [hne];done) | (rw [dC];simp_all [jZ];done)
  ·replace g21:=yq (nf g21)
   refine ⟨fun g28=>?_,fun g28=>?_⟩
   ·replace g28:=nq (nt g28)
    refine ⟨?_,trivial⟩
    ·first | (simp [hne];done) | (rw [dC];simp_all [jZ];done)
   ·replace g28:=yq (nf g28)
    refine ⟨List.length_map _,List.length_map _,fun c0=>?_,fun c0=>?_⟩
    ·replace c0:=nq (nt c0)
     have hne: ¬a=b:=fun e=>c0 (by rw [e])
     refine ⟨?_,trivial⟩
     ·first | (simp [hne];done) | (rw [dC];simp_all [jZ];done)
    ·replace c0:=yq (nf c0)
     have hl:a.groups.length=b.groups.length:=by omega
     refine ⟨⟨0,rfl,Nat.zero_le _,rfl⟩,fun i ⟨hi,ht⟩=>?_⟩
     refine ⟨List.length_map _,fun c1=>?_,fun c1=>?_⟩
     ·replace c1:=yq c1
      refine ⟨by omega,rfl,by omega,fun e47 h47=>?_⟩
      have q1:=gE h47
      have q2:aW a=a.name.size+cQ a.groups:=rfl
      have q3:bH e47=bX e47.columns+cM e47.values+bX e47.counts:=rfl
      have q4:=fL e47.values
      refine ⟨by omega,rfl,by omega,fun e52 h52=>?_⟩
      refine ⟨iI _ _,fun g60=>?_,fun g60=>?_⟩
      ·replace g60:=nq (nt g60)
       have hne: ¬a=b:=fun e=>by subst e;have q:=bA h47 h52;subst q;exact g60 (eI.2 rfl)
       refine ⟨?_,trivial⟩
       ·first | (simp [hne];done) | (rw [dC];simp_all [jZ];done)
      ·replace g60:=yq (nf g60)
       refine ⟨iI _ _,fun g68=>?_,fun g68=>?_⟩
       ·replace g68:=nq (nt g68)
        have hne: ¬a=b:=fun e=>by subst e;have q:=bA h47 h52;subst q;exact g68 (eI.2 rfl)
        refine ⟨?_,trivial⟩
        ·first | (simp [hne];done) | (rw [dC];simp_all [jZ];done)
       ·replace g68:=yq (nf g68)
        refine ⟨List.length_map _,List.length_map _,fun c2=>?_,fun c2=>?_⟩
        ·replace c2:=nq (nt c2)
         have hne: ¬a=b:=fun e=>by subst e;have q:=bA h47 h52;subst q;exact c2 rfl
         refine ⟨?_,trivial⟩
         ·first | (simp [hne];done) | (rw [dC];simp_all [jZ];done)
        ·replace c2:=yq (nf c2)
         refine ⟨⟨0,rfl,Nat.zero_le _,rfl⟩,fun k ⟨hk,hv⟩=>?_⟩
         refine ⟨List.length_map _,fun c3=>?_,fun c3=>?_⟩
         ·replace c3:=yq c3
          refine ⟨by omega,rfl,by omega,fun e87 h87=>?_⟩
          refine ⟨by omega,rfl,by omega,fun e92 h92=>?_⟩
          refine ⟨iI _ _,fun c4=>?_,fun c4=>?_⟩
          ·replace c4:=nq (nt c4)
           have hne: ¬a=b:=fun e=>by subst e;have q:=bA h47 h52;subst q;have q:=bA h87 h92;subst q;exact c4 (eI.2 rfl)
           refine ⟨?_,trivial⟩
           ·first | (simp [hne];done) | (rw [dC];simp_all [jZ];done)
          ·replace c4:=yq (nf c4)
           refine ⟨⟨by omega,by omega⟩,?_⟩
           exact ⟨k+1,rfl,⟨by omega,lR h87 (by rw [h92,eI.1 c4]) hv⟩,by omega⟩
         ·replace c3:=nq c3
          have hxy:e52=e47:=(aRI (eI.1 g60) (fP (by omega) (by omega) hv) (eI.1 g68)).symm
          refine ⟨⟨by omega,by omega⟩,?_⟩
          exact ⟨i+1,rfl,⟨by omega,lR h47 (by rw [h52,hxy]) ht⟩,by omega⟩
     ·replace c1:=nq c1
      have hg:=fP (by omega) hl ht
      refine ⟨?_,trivial⟩
      ·first | (simp [hne];done) | (rw [dC];simp_all [jZ];done)
abbrev aBG (a:bS) (b:bS):Prop:=dG Tryz.prog 129 [.agg [.int .i64 a.version,.sl 121 4 (a.tables.map aC)],.agg [.int .i64 b.version,.sl 121 4 (b.tables.map aC)]] (vB (decide (a=b))) []
theorem aKI (a b:bS) (ha:bM a≤1048576):aBG a b:=by
 refine aY bK aU Tryz.func129 (by kernel_rfl) (.br (.fin []) (.len a.tables.length<| .len b.tables.length<| .lit<| .lit<| .br (.fin []) (.loop Nat (Q1 Nat) [5,20,21,22,23,24,25,26,27,28,29,30,31,32,33,34,35,36,37,38] [] (fun k=>[(5,vI (k:Int))]) (fun k=>[]) (fun k=>k≤a.tables.length∧a.tables.take k=b.tables.take k) (fun k=>a.tables.length - k) (fun k=> .len a.tables.length<| .br (.elem _ aC a.tables (fun e30=> .elem _ aC b.tables (fun e35=> .call (vB (decide (e30=e35))) []<| .br (.fin []) (.back [])))) (.fin []))))) (p:=(a.tables.map aC).length≤9223372036854775807→(b.tables.map aC).length≤9223372036854775807→((!(decide (a.version=b.version)))=true→(false)=(decide (a=b))∧True)∧((!(decide (a.version=b.version)))=false→Lm aC a.tables∧(Lm aC b.tables∧(((!(decide (((a.tables.length:Nat):Int)=((b.tables.length:Nat):Int))))=true→(false)=(decide (a=b))∧True)∧((!(decide (((a.tables.length:Nat):Int)=((b.tables.length:Nat):Int))))=false→(∃(k:Nat),(0:Int)=(k:Int)∧k≤a.tables.length∧a.tables.take k=b.tables.take k)∧ ∀(k:Nat),(k≤a.tables.length∧a.tables.take k=b.tables.take k)→Lm aC a.tables∧(((decide ((k:Int)<((a.tables.length:Nat):Int)))=true→0≤(k:Int)∧Em aC a.tables k fun e30=>0≤(k:Int)∧Em aC b.tables k fun e35=>qI e30 e35∧(((!(decide (e30=e35)))=true→(false)=(decide (a=b))∧True)∧((!(decide (e30=e35)))=false→dB ((k:Int)+(1:Int))∧ ∃(k' :Nat),((k:Int)+(1:Int))=(k' :Int)∧(k' ≤a.tables.length∧a.tables.take k' =b.tables.take k')∧a.tables.length - k' <a.tables.length - k)))∧((decide ((k:Int)<((a.tables.length:Nat):Int)))=false→(true)=(decide (a=b))∧True))))))) (by kernel_rfl) ?_
 intro n0 n1
 simp only [List.length_map] at n0 n1
 have hS:bM a=cX a.tables:=rfl
 refine ⟨fun g11=>?_,fun g11=>?_⟩
 ·replace g11:=nq (nt g11)
  refine ⟨?_,trivial⟩
  ·first | (simp [hne];done) | (rw [gP];simp_all;done)
 ·replace g11:=yq (nf g11)
  refine ⟨List.length_map _,List.length_map _,fun c0=>?_,fun c0=>?_⟩
  ·replace c0:=nq (nt c0)
   have hne: ¬a=b:=fun e=>c0 (by rw [e])
   refine ⟨?_,trivial⟩
   ·first | (simp [hne];done) | (rw [gP];simp_all;done)
  ·replace c0:=yq (nf c0)
   have hl:a.tables.length=b.tables.length:=by omega
   refine ⟨⟨0,rfl,Nat.zero_le _,rfl⟩,fun k ⟨hk,ht⟩=>?_⟩
   refine ⟨List.length_map _,fun c1=>?_,fun c1=>?_⟩
   ·replace c1:=yq c1
    refine ⟨by omega,rfl,by omega,fun e30 h30=>?_⟩
    refine ⟨by omega,rfl,by omega,fun e35 h35=>?_⟩
    refine ⟨aBF _ _ (by have:=jN h30;omega),fun c2=>?_,fun c2=>?_⟩
    ·replace c2:=nq (nt c2)
     have hne: ¬a=b:=fun e=>by subst e;exact c2 (bA h35 h30)
     refine ⟨?_,trivial⟩
     ·first | (simp [hne];done) | (rw [gP];simp_all;done)
    ·replace c2:=yq (nf c2)
     refine ⟨⟨by omega,by omega⟩,?_⟩
     exact ⟨k+1,rfl,⟨by omega,lR h30 (by rw [h35,c2]) ht⟩,by omega⟩
   ·replace c1:=nq c1
    have hg:=fP (by omega) hl ht
    refine ⟨?_,trivial⟩
    ·first | (simp [hne];done) | (rw [gP];simp_all;done)
abbrev eY (n:Int) (a:Int) (b:Int):Prop:=dG Tryz.prog 102 [.one (.int .i64 n),.one (.int .i64 a),.one (.int .i64 b)] (vB (dP n a b)) []
theorem iJ (n a b:Int):eY n a b:=by
 refine aY bK aU Tryz.func102 (by kernel_rfl) (.br (.fin []) (.fin [])) (p:=((decide (a≤n))=true→(decide (n≤b))=(dP n a b)∧True)∧((decide (a≤n))=false→(false)=(dP n a b)∧True)) (by kernel_rfl) ?_
 refine ⟨fun g10=>?_,fun g10=>?_⟩
 ·replace g10:=yq g10
  refine ⟨?_,trivial⟩
  ·first | (simp [dP,g10];done) | (simp [dP];omega)
 ·replace g10:=nq g10
  refine ⟨?_,trivial⟩
  ·first | (simp [dP,g10];done) | (simp [dP];omega)
abbrev eZ (n:Int) (a:Int) (b:Int):Prop:=dG Tryz.prog 99 [.one (.int .i64 n),.one (.int .i64 a),.one (.int .i64 b)] (vB (dP n a b)) []
theorem iK (n a b:Int):eZ n a b:=by
 refine aY bK aU Tryz.func99 (by kernel_rfl) (.br (.fin []) (.fin [])) (p:=((decide (a≤n))=true→(decide (n≤b))=(dP n a b)∧True)∧((decide (a≤n))=false→(false)=(dP n a b)∧True)) (by kernel_rfl) ?_
 refine ⟨fun g10=>?_,fun g10=>?_⟩
 ·replace g10:=yq g10
  refine ⟨?_,trivial⟩
  ·first | (simp [dP,g10];done) | (simp [dP];omega)
 ·replace g10:=nq g10
  refine ⟨?_,trivial⟩
  ·first | (simp [dP,g10];done) | (simp [dP];omega)
def aBH (v:Int):Bool:=dP v 0 9
def gH (n:Int) (r:List Int):Bool:=r.all aBH&&decide ((r.length:Int)=n)
def dV (s:ByteArray):Bool:=decide ((s.size:Int)=1)&&(decide (97≤qE s 0)&&decide (qE s 0≤122))
abbrev aEX (r:List Int) (n:Int):Prop:=dG Tryz.prog 226 [.one (.sl 3 1 (r.map intD)),.one (.int .i64 n)] (vB (gH n r)) []
theorem aNu (r:List Int) (n:Int):aEX r n:=by
 refine aY bK aU Tryz.func226 (by kernel_rfl) (.len r.length<| .loop Nat (Q1 Nat) [6,9,10,11,12,13,14,15,16] [] (fun k=>[(9,vI (k:Int))]) (fun k=>[]) (fun k=>k≤r.length∧(r.take k).all aBH=true) (fun k=>r.length - k) (fun k=> .br (.elem _ intD r (fun e11=> .call (vB (dP e11 (0:Int) (9:Int))) []<| .br (.fin []) (.back []))) (.len r.length<| .fin []))) (p:=(r.map intD).length≤9223372036854775807→Lm intD r∧((∃(k:Nat),(0:Int)=(k:Int)∧k≤r.length∧(r.take k).all aBH=true)∧ ∀(k:Nat),(k≤r.length∧(r.take k).all aBH=true)→((decide ((k:Int)<((r.length:Nat):Int)))=true→0≤(k:Int)∧Em intD r k fun e11=>eY e11 (0:Int) (9:Int)∧(((!(dP e11 (0:Int) (9:Int)))=true→(false)=(gH n r)∧True)∧((!(dP e11 (0:Int) (9:Int)))=false→dB ((k:Int)+(1:Int))∧ ∃(k' :Nat),((k:Int)+(1:Int))=(k' :Int)∧(k' ≤r.length∧(r.take k').all aBH=true)∧r.length - k' <r.length - k)))∧((decide ((k:Int)<((r.length:Nat):Int)))=false→Lm intD r∧(decide (((r.length:Nat):Int)=n))=(gH n r)∧True))) (by kernel_rfl) ?_
 intro n0
 simp only [List.length_map] at n0
 refine ⟨List.length_map _,⟨0,rfl,Nat.zero_le _,rfl⟩,fun k ⟨hk,ha⟩=>?_⟩
 refine ⟨fun c0=>?_,fun c0=>?_⟩
 ·replace c0:=yq c0
  refine ⟨by omega,rfl,by omega,fun e11 h11=>?_⟩
  refine ⟨iJ _ _ _,fun c1=>?_,fun c1=>?_⟩
  ·replace c1:=nt c1
   refine ⟨?_,trivial⟩
   ·first | (rw [gH,cG h11 c1];rfl) | (rw [gH,bU (by omega) ha];simp)
  ·replace c1:=nf c1
   refine ⟨⟨by omega,by omega⟩,?_⟩
   exact ⟨k+1,rfl,⟨by omega,dQ h11 ha c1⟩,by omega⟩
 ·replace c0:=nq c0
  refine ⟨List.length_map _,?_,trivial⟩
  ·first | (rw [gH,cG h11 c1];rfl) | (rw [gH,bU (by omega) ha];simp)
abbrev aEY (r:List Int) (n:Int):Prop:=dG Tryz.prog 208 [.one (.sl 3 1 (r.map intD)),.one (.int .i64 n)] (vB (gH n r)) []
theorem aNv (r:List Int) (n:Int):aEY r n:=by
 refine aY bK aU Tryz.func208 (by kernel_rfl) (.loop Nat (Q1 Nat) [5,6,7,8,9,10,11,12,13,14,15,16,17] [] (fun k=>[(5,vI (k:Int))]) (fun k=>[]) (fun k=>k≤r.length∧(r.take k).all aBH=true) (fun k=>r.length - k) (fun k=> .len r.length<| .br (.elem _ intD r (fun e14=> .call (vB (dP e14 (0:Int) (9:Int))) []<| .br (.fin []) (.back []))) (.len r.length<| .fin []))) (p:=(r.map intD).length≤9223372036854775807→(∃(k:Nat),(0:Int)=(k:Int)∧k≤r.length∧(r.take k).all aBH=true)∧ ∀(k:Nat),(k≤r.length∧(r.take k).all aBH=true)→Lm intD r∧(((decide ((k:Int)<((r.length:Nat):Int)))=true→0≤(k:Int)∧Em intD r k fun e14=>eZ e14 (0:Int) (9:Int)∧(((!(dP e14 (0:Int) (9:Int)))=true→(false)=(gH n r)∧True)∧((!(dP e14 (0:Int) (9:Int)))=false→dB ((k:Int)+(1:Int))∧ ∃(k' :Nat),((k:Int)+(1:Int))=(k' :Int)∧(k' ≤r.length∧(r.take k').all aBH=true)∧r.length - k' <r.length - k)))∧((decide ((k:Int)<((r.length:Nat):Int)))=false→Lm intD r∧(decide (((r.length:Nat):Int)=n))=(gH n r)∧True))) (by kernel_rfl) ?_
 intro n0
 simp only [List.length_map] at n0
 refine ⟨⟨0,rfl,Nat.zero_le _,rfl⟩,fun k ⟨hk,ha⟩=>?_⟩
 refine ⟨List.length_map _,fun c0=>?_,fun c0=>?_⟩
 ·replace c0:=yq c0
  refine ⟨by omega,rfl,by omega,fun e14 h14=>?_⟩
  refine ⟨iK _ _ _,fun c1=>?_,fun c1=>?_⟩
  ·replace c1:=nt c1
   refine ⟨?_,trivial⟩
   ·first | (rw [gH,cG h14 c1];rfl) | (rw [gH,bU (by omega) ha];simp)
  ·replace c1:=nf c1
   refine ⟨⟨by omega,by omega⟩,?_⟩
   exact ⟨k+1,rfl,⟨by omega,dQ h14 ha c1⟩,by omega⟩
 ·replace c0:=nq c0
  refine ⟨List.length_map _,?_,trivial⟩
  ·first | (rw [gH,cG h14 c1];rfl) | (rw [gH,bU (by omega) ha];simp)
abbrev wN (s:ByteArray):Prop:=dG Tryz.prog 253 [.one (.str s)] (vB (dV s)) []
theorem aGj (s:ByteArray):wN s:=by
 refine aY bK aU Tryz.func253 (by kernel_rfl) (.br (.lit<| .lit<| .lit<| .br (.fin []) (.fin [])) (.fin [])) (p:=((decide (((s.size:Nat):Int)=(1:Int)))=true→0≤(0:Int)∧(0:Int)<((s.size:Nat):Int)∧(((decide ((97:Int)≤(qE s 0)))=true→0≤(0:Int)∧(0:Int)<((s.size:Nat):Int)∧(decide ((qE s 0)≤(122:Int)))=(dV s)∧True)∧((decide ((97:Int)≤(qE s 0)))=false→(false)=(dV s)∧True)))∧((decide (((s.size:Nat):Int)=(1:Int)))=false→(false)=(dV s)∧True)) (by kernel_rfl) ?_
 refine ⟨fun g6=>?_,fun g6=>?_⟩
 ·replace g6:=yq g6
  refine ⟨by omega,by omega,fun g11=>?_,fun g11=>?_⟩
  ·replace g11:=yq g11
   refine ⟨by omega,by omega,?_,trivial⟩
   ·first | (simp [dV,g6];done) | (simp [dV,g6,g11];done) | (simp [dV, *];done)
  ·replace g11:=nq g11
   refine ⟨?_,trivial⟩
   ·first | (simp [dV,g6];done) | (simp [dV,g6,g11];done) | (simp [dV, *];done)
 ·replace g6:=nq g6
  refine ⟨?_,trivial⟩
  ·first | (simp [dV,g6];done) | (simp [dV,g6,g11];done) | (simp [dV, *];done)
abbrev wO (s:ByteArray):Prop:=dG Tryz.prog 243 [.one (.str s)] (vB (dV s)) []
theorem aGk (s:ByteArray):wO s:=by
 refine aY bK aU Tryz.func243 (by kernel_rfl) (.br (.lit<| .lit<| .lit<| .br (.fin []) (.fin [])) (.fin [])) (p:=((decide (((s.size:Nat):Int)=(1:Int)))=true→0≤(0:Int)∧(0:Int)<((s.size:Nat):Int)∧(((decide ((97:Int)≤(qE s 0)))=true→0≤(0:Int)∧(0:Int)<((s.size:Nat):Int)∧(decide ((qE s 0)≤(122:Int)))=(dV s)∧True)∧((decide ((97:Int)≤(qE s 0)))=false→(false)=(dV s)∧True)))∧((decide (((s.size:Nat):Int)=(1:Int)))=false→(false)=(dV s)∧True)) (by kernel_rfl) ?_
 refine ⟨fun g6=>?_,fun g6=>?_⟩
 ·replace g6:=yq g6
  refine ⟨by omega,by omega,fun g11=>?_,fun g11=>?_⟩
  ·replace g11:=yq g11
   refine ⟨by omega,by omega,?_,trivial⟩
   ·first | (simp [dV,g6];done) | (simp [dV,g6,g11];done) | (simp [dV, *];done)
  ·replace g11:=nq g11
   refine ⟨?_,trivial⟩
   ·first | (simp [dV,g6];done) | (simp [dV,g6,g11];done) | (simp [dV, *];done)
 ·replace g6:=nq g6
  refine ⟨?_,trivial⟩
  ·first | (simp [dV,g6];done) | (simp [dV,g6,g11];done) | (simp [dV, *];done)
abbrev aCC (n:Int):Prop:=dG Tryz.prog 314 [.one (.int .i64 n)] (vB false) []
theorem aLA (n:Int):aCC n:=by
 refine aY bK aU Tryz.func314 (by kernel_rfl) (.fin []) (p:=(!(decide (n=n)))=false∧True) (by kernel_rfl) ?_
 refine ⟨?_,trivial⟩
 ·simp
def rC (a b:Int):Int:=if a<b then -1 else if b<a then 1 else 0
abbrev aGl (a:Int) (b:Int):Prop:=dG Tryz.prog 308 [.one (.int .i64 a),.one (.int .i64 b)] (vI (rC a b)) []
theorem aPn (a b:Int):aGl a b:=by
 refine aY bK aU Tryz.func308 (by kernel_rfl) (.call (vB false) []<| .call (vB false) []<| .lit<| .lit<| .br (.fin []) (.br (.fin []) (.fin []))) (p:=aCC a∧(aCC b∧(((decide (a<b))=true→(-1:Int)=(rC a b)∧True)∧((decide (a<b))=false→((decide (b<a))=true→(1:Int)=(rC a b)∧True)∧((decide (b<a))=false→(0:Int)=(rC a b)∧True))))) (by kernel_rfl) ?_
 refine ⟨aLA _,aLA _,fun c3=>?_,fun c3=>?_⟩
 ·replace c3:=yq c3
  refine ⟨?_,trivial⟩
  ·simp [rC, *];try omega
 ·replace c3:=nq c3
  refine ⟨fun c4=>?_,fun c4=>?_⟩
  ·replace c4:=yq c4
   refine ⟨?_,trivial⟩
   ·simp [rC, *];try omega
  ·replace c4:=nq c4
   refine ⟨?_,trivial⟩
   ·simp [rC, *];try omega
theorem aGm (a b:Int) (l m:List Int):bV (a::l) (b::m)=if rC a b=0 then bV l m else rC a b:=by
 unfold rC
 rw [bV]
 by_cases h1:a<b
 ·simp [h1]
 ·by_cases h2:b<a
  ·simp [h1,h2]
  ·simp [h1,h2]
abbrev aNw (l:List Int) (m:List Int):Prop:=dG Tryz.prog 285 [.one (.sl 3 1 (l.map intD)),.one (.sl 3 1 (m.map intD))] (vI (bV l m)) []
theorem aRv (l m:List Int):aNw l m:=by
 refine aY bK aU Tryz.func285 (by kernel_rfl) (.len l.length<| .loop Nat (Q1 Nat) [5,6,7,8,11,12,13,14,15,16,17,18,19,20,21,22,23,24,25,26,27,28,30] [] (fun k=>[(11,vI (k:Int))]) (fun k=>[]) (fun k=>(k≤l.length∧k≤m.length)∧bV (l.drop k) (m.drop k)=bV l m) (fun k=>l.length - k) (fun k=> .br (.elem _ intD l (fun e14=> .len m.length<| .br (.fin []) (.elem _ intD m (fun e22=> .call (vI (rC e14 e22)) []<| .br (.fin []) (.back []))))) (.len l.length<| .len m.length<| .br (.fin []) (.fin [])))) (p:=(l.map intD).length≤9223372036854775807→(m.map intD).length≤9223372036854775807→Lm intD l∧((∃(k:Nat),(0:Int)=(k:Int)∧(k≤l.length∧k≤m.length)∧bV (l.drop k) (m.drop k)=bV l m)∧ ∀(k:Nat),((k≤l.length∧k≤m.length)∧bV (l.drop k) (m.drop k)=bV l m)→((decide ((k:Int)<((l.length:Nat):Int)))=true→0≤(k:Int)∧Em intD l k fun e14=>Lm intD m∧(((decide (((m.length:Nat):Int)≤(k:Int)))=true→(1:Int)=(bV l m)∧True)∧((decide (((m.length:Nat):Int)≤(k:Int)))=false→0≤(k:Int)∧Em intD m k fun e22=>aGl e14 e22∧(((!(decide ((rC e14 e22)=(0:Int))))=true→(rC e14 e22)=(bV l m)∧True)∧((!(decide ((rC e14 e22)=(0:Int))))=false→dB ((k:Int)+(1:Int))∧ ∃(k' :Nat),((k:Int)+(1:Int))=(k' :Int)∧((k' ≤l.length∧k' ≤m.length)∧bV (l.drop k') (m.drop k')=bV l m)∧l.length - k' <l.length - k)))))∧((decide ((k:Int)<((l.length:Nat):Int)))=false→Lm intD l∧(Lm intD m∧(((decide (((l.length:Nat):Int)<((m.length:Nat):Int)))=true→(-1:Int)=(bV l m)∧True)∧((decide (((l.length:Nat):Int)<((m.length:Nat):Int)))=false→(0:Int)=(bV l m)∧True)))))) (by kernel_rfl) ?_
 intro n0 n1
 simp only [List.length_map] at n0 n1
 refine ⟨List.length_map _,⟨0,rfl,⟨Nat.zero_le _,Nat.zero_le _⟩,rfl⟩,fun k ⟨hk,hv⟩=>?_⟩
 refine ⟨fun c0=>?_,fun c0=>?_⟩
 ·replace c0:=yq c0
  obtain ⟨x,hx⟩:=cC (l:=l) (k:=k) (by omega)
  refine ⟨by omega,rfl,by omega,fun e14 h14=>?_⟩
  obtain rfl:=(bA hx h14).symm
  refine ⟨List.length_map _,fun c1=>?_,fun c1=>?_⟩
  ·replace c1:=yq c1
   refine ⟨?_,trivial⟩
   ·first | (rw [hd,if_neg c2];done) | (rw [←hv,cB hk (by omega),if_neg (by omega),if_pos (by omega)];done) | (rw [←hv,cB hk (by omega),if_pos (by omega)];done) | (rw [←hv,cB hk (by omega),if_neg (by omega),if_neg (by omega)];done)
  ·replace c1:=nq c1
   obtain ⟨y,hy⟩:=cC (l:=m) (k:=k) (by omega)
   have hd:bV l m=if rC x y=0 then bV (l.drop (k+1)) (m.drop (k+1)) else rC x y:=by rw [←hv,kS hx,kS hy,aGm]
   refine ⟨by omega,rfl,by omega,fun e22 h22=>?_⟩
   obtain rfl:=(bA hy h22).symm
   refine ⟨aPn _ _,fun c2=>?_,fun c2=>?_⟩
   ·replace c2:=nq (nt c2)
    refine ⟨?_,trivial⟩
    ·first | (rw [hd,if_neg c2];done) | (rw [←hv,cB hk (by omega),if_neg (by omega),if_pos (by omega)];done) | (rw [←hv,cB hk (by omega),if_pos (by omega)];done) | (rw [←hv,cB hk (by omega),if_neg (by omega),if_neg (by omega)];done)
   ·replace c2:=yq (nf c2)
    refine ⟨⟨by omega,by omega⟩,?_⟩
    exact ⟨k+1,rfl,⟨by omega,by rw [hd,if_pos c2]⟩,by omega⟩
 ·replace c0:=nq c0
  refine ⟨List.length_map _,List.length_map _,fun c3=>?_,fun c3=>?_⟩
  ·replace c3:=yq c3
   refine ⟨?_,trivial⟩
   ·first | (rw [hd,if_neg c2];done) | (rw [←hv,cB hk (by omega),if_neg (by omega),if_pos (by omega)];done) | (rw [←hv,cB hk (by omega),if_pos (by omega)];done) | (rw [←hv,cB hk (by omega),if_neg (by omega),if_neg (by omega)];done)
  ·replace c3:=nq c3
   refine ⟨?_,trivial⟩
   ·first | (rw [hd,if_neg c2];done) | (rw [←hv,cB hk (by omega),if_neg (by omega),if_pos (by omega)];done) | (rw [←hv,cB hk (by omega),if_pos (by omega)];done) | (rw [←hv,cB hk (by omega),if_neg (by omega),if_neg (by omega)];done)
abbrev wP (l:List Int) (m:List Int):Prop:=dG Tryz.prog 269 [.one (.sl 3 1 (l.map intD)),.one (.sl 3 1 (m.map intD))] (vI (bV l m)) []
theorem aHf (l m:List Int):wP l m:=by
 refine aY bK aU Tryz.func269 (by kernel_rfl) (.call (vI (bV l m)) []<| .fin []) (p:=(l.map intD).length≤9223372036854775807→(m.map intD).length≤9223372036854775807→aNw l m∧(bV l m)=(bV l m)∧True) (by kernel_rfl) ?_
 intro n0 n1
 simp only [List.length_map] at n0 n1
 refine ⟨aRv _ _,?_⟩
 exact ⟨rfl,trivial⟩
def lD (l:List (List Int)) (i:Nat):Bool:=decide (bV (l.getD i []) (l.getD (i+1) [])<0)
def aAG (l:List (List Int)):Bool:=(List.range (l.length - 1)).all (lD l)
def aT (t:aR):Bool:=t.rows.all (gH t.arity)&&(dV t.name&&(dP t.arity 1 3&&(decide ((t.rows.length:Int)≤8)&&aAG t.rows)))
theorem iT {p:Nat→Bool} {k:Nat} (h:(List.range k).all p=true) (hk:p k=true):(List.range (k+1)).all p=true:=by
 rw [List.range_succ,List.all_append,h];simp [hk]
theorem fF {p:Nat→Bool} {n k:Nat} (hk:k<n) (h:p k=false):(List.range n).all p=false:=by
 rw [List.all_eq_false];exact ⟨k,List.mem_range.2 hk,by simp [h]⟩
theorem bD {α:Type} {l:List α} {k:Nat} {x y:α} (h:l[k]? =some x):l.getD k y=x:=by simp [List.getD_eq_getElem?_getD,h]
abbrev aEZ (l:List (List Int)):Prop:=dG Tryz.prog 264 [.one (.sl 32 1 (l.map aE))] (vB (aAG l)) []
theorem aNx (l:List (List Int)):aEZ l:=by
 refine aY bK aU Tryz.func264 (by kernel_rfl) (.loop Nat (Q1 Nat) [3,4,5,6,7,8,9,10,11,12,13,14,15,16,17,18,19,20] [] (fun k=>[(3,vI (((k:Nat):Int)+1))]) (fun k=>[]) (fun k=>(k+1≤l.length∨k=0)∧(List.range k).all (lD l)=true) (fun k=>l.length - k) (fun k=> .len l.length<| .br (.elem _ aE l (fun e13=> .elem _ aE l (fun e17=> .call (vI (bV e13 e17)) []<| .br (.fin []) (.back [])))) (.fin []))) (p:=(l.map aE).length≤9223372036854775807→(∃(k:Nat),(1:Int)=(((k:Nat):Int)+1)∧(k+1≤l.length∨k=0)∧(List.range k).all (lD l)=true)∧ ∀(k:Nat),((k+1≤l.length∨k=0)∧(List.range k).all (lD l)=true)→Lm aE l∧(((decide ((((k:Nat):Int)+1)<((l.length:Nat):Int)))=true→dB ((((k:Nat):Int)+1) - (1:Int))∧(0≤((((k:Nat):Int)+1) - (1:Int))∧Em aE l (((((k:Nat):Int)+1) - (1:Int)).toNat) fun e13=>0≤(((k:Nat):Int)+1)∧Em aE l (k+1) fun e17=>wP e13 e17∧(((decide ((0:Int)≤(bV e13 e17)))=true→(false)=(aAG l)∧True)∧((decide ((0:Int)≤(bV e13 e17)))=false→dB ((((k:Nat):Int)+1)+(1:Int))∧ ∃(k' :Nat),((((k:Nat):Int)+1)+(1:Int))=(((k' :Nat):Int)+1)∧((k' +1≤l.length∨k' =0)∧(List.range k').all (lD l)=true)∧l.length - k' <l.length - k))))∧((decide ((((k:Nat):Int)+1)<((l.length:Nat):Int)))=false→(true)=(aAG l)∧True))) (by kernel_rfl) ?_
 intro n0
 simp only [List.length_map] at n0
 refine ⟨⟨0,rfl,.inr rfl,rfl⟩,fun k ⟨hk,ha⟩=>?_⟩
 refine ⟨List.length_map _,fun c0=>?_,fun c0=>?_⟩
 ·replace c0:=yq c0
  refine ⟨⟨by omega,by omega⟩,by omega,rfl,by omega,fun e13 h13=>?_⟩
  have i13:l[k]? =some e13:=by rw [←h13];congr 1;omega
  refine ⟨by omega,rfl,by omega,fun e17 h17=>?_⟩
  refine ⟨aHf _ _,fun c1=>?_,fun c1=>?_⟩
  ·replace c1:=yq c1
   have hp:lD l k=false:=by rw [lD,bD i13,bD h17];simp;omega
   refine ⟨?_,trivial⟩
   ·first | (rw [aAG,fF (by omega) hp];done) | (rw [aAG,show l.length - 1=k by omega,ha];done)
  ·replace c1:=nq c1
   have hp:lD l k=true:=by rw [lD,bD i13,bD h17];simp;omega
   refine ⟨⟨by omega,by omega⟩,?_⟩
   exact ⟨k+1,rfl,⟨by omega,iT ha hp⟩,by omega⟩
 ·replace c0:=nq c0
  refine ⟨?_,trivial⟩
  ·first | (rw [aAG,fF (by omega) hp];done) | (rw [aAG,show l.length - 1=k by omega,ha];done)
abbrev qJ (t:aR):Prop:=dG Tryz.prog 225 [.agg [.str t.name,.int .i64 t.arity,.sl 32 1 (t.rows.map aE)]] (vB (aT t)) []
theorem wQ (t:aR):qJ t:=by
 refine aY bK aU Tryz.func225 (by kernel_rfl) (.len t.rows.length<| .loop Nat (Q1 Nat) [4,8,9,10,11,12,13,14,15,16,17] [] (fun k=>[(8,vI (k:Int))]) (fun k=>[]) (fun k=>k≤t.rows.length∧(t.rows.take k).all (gH t.arity)=true) (fun k=>t.rows.length - k) (fun k=> .br (.elem _ aE t.rows (fun e10=> .call (vB (gH t.arity e10)) []<| .br (.fin []) (.back []))) (.call (vB (dV t.name)) []<| .br (.call (vB (dP t.arity (1:Int) (3:Int))) []<| .lit<| .br (.len t.rows.length<| .lit<| .lit<| .br (.call (vB (aAG t.rows)) []<| .fin []) (.fin [])) (.fin [])) (.fin [])))) (p:=(t.rows.map aE).length≤9223372036854775807→Lm aE t.rows∧((∃(k:Nat),(0:Int)=(k:Int)∧k≤t.rows.length∧(t.rows.take k).all (gH t.arity)=true)∧ ∀(k:Nat),(k≤t.rows.length∧(t.rows.take k).all (gH t.arity)=true)→((decide ((k:Int)<((t.rows.length:Nat):Int)))=true→0≤(k:Int)∧Em aE t.rows k fun e10=>aEX e10 t.arity∧(((!(gH t.arity e10))=true→(false)=(aT t)∧True)∧((!(gH t.arity e10))=false→dB ((k:Int)+(1:Int))∧ ∃(k' :Nat),((k:Int)+(1:Int))=(k' :Int)∧(k' ≤t.rows.length∧(t.rows.take k').all (gH t.arity)=true)∧t.rows.length - k' <t.rows.length - k)))∧((decide ((k:Int)<((t.rows.length:Nat):Int)))=false→wN t.name∧(((dV t.name)=true→eY t.arity (1:Int) (3:Int)∧(((dP t.arity (1:Int) (3:Int))=true→Lm aE t.rows∧(((decide (((t.rows.length:Nat):Int)≤(8:Int)))=true→aEZ t.rows∧(aAG t.rows)=(aT t)∧True)∧((decide (((t.rows.length:Nat):Int)≤(8:Int)))=false→(false)=(aT t)∧True)))∧((dP t.arity (1:Int) (3:Int))=false→(false)=(aT t)∧True)))∧((dV t.name)=false→(false)=(aT t)∧True))))) (by kernel_rfl) ?_
 intro n0
 simp only [List.length_map] at n0
 refine ⟨List.length_map _,⟨0,rfl,Nat.zero_le _,rfl⟩,fun k ⟨hk,ha⟩=>?_⟩
 refine ⟨fun c0=>?_,fun c0=>?_⟩
 ·replace c0:=yq c0
  refine ⟨by omega,rfl,by omega,fun e10 h10=>?_⟩
  refine ⟨aNu _ _,fun c1=>?_,fun c1=>?_⟩
  ·replace c1:=nt c1
   refine ⟨?_,trivial⟩
   ·first | (rw [aT,cG h10 c1];rfl) | (simp [aT,hall, *];done)
  ·replace c1:=nf c1
   refine ⟨⟨by omega,by omega⟩,?_⟩
   exact ⟨k+1,rfl,⟨by omega,dQ h10 ha c1⟩,by omega⟩
 ·replace c0:=nq c0
  have hall:=bU (by omega) ha
  refine ⟨aGj _,fun g21=>?_,fun g21=>?_⟩
  ·refine ⟨iJ _ _ _,fun g26=>?_,fun g26=>?_⟩
   ·refine ⟨List.length_map _,fun g32=>?_,fun g32=>?_⟩
    ·replace g32:=yq g32
     refine ⟨aNx _,?_,trivial⟩
     ·first | (rw [aT,cG h10 c1];rfl) | (simp [aT,hall, *];done)
    ·replace g32:=nq g32
     refine ⟨?_,trivial⟩
     ·first | (rw [aT,cG h10 c1];rfl) | (simp [aT,hall, *];done)
   ·refine ⟨?_,trivial⟩
    ·first | (rw [aT,cG h10 c1];rfl) | (simp [aT,hall, *];done)
  ·refine ⟨?_,trivial⟩
   ·first | (rw [aT,cG h10 c1];rfl) | (simp [aT,hall, *];done)
abbrev nC (t:aR):Prop:=dG Tryz.prog 207 [.agg [.str t.name,.int .i64 t.arity,.sl 32 1 (t.rows.map aE)]] (vB (aT t)) []
theorem wR (t:aR):nC t:=by
 refine aY bK aU Tryz.func207 (by kernel_rfl) (.call (vB (dV t.name)) []<| .br (.fin []) (.call (vB (dP t.arity (1:Int) (3:Int))) []<| .lit<| .lit<| .br (.fin []) (.len t.rows.length<| .lit<| .lit<| .br (.fin []) (.loop Nat (Q1 Nat) [3,20,21,22,23,24,25,26,27,28,29,30,31,32,33,34,35,36,37,38,39,40,41,42,43,44,45,46,47,48,49,50,51,52,53,54] [] (fun k=>[(3,vI (k:Int))]) (fun k=>[]) (fun k=>k≤t.rows.length∧(t.rows.take k).all (gH t.arity)=true∧(List.range (k - 1)).all (lD t.rows)=true) (fun k=>t.rows.length - k) (fun k=> .len t.rows.length<| .br (.elem _ aE t.rows (fun e30=> .call (vB (gH t.arity e30)) []<| .br (.fin []) (.lit<| .lit<| .br (.elem _ aE t.rows (fun e44=> .elem _ aE t.rows (fun e49=> .call (vI (bV e44 e49)) []<| .lit<| .lit<| .lit<| .lit<| .br (.fin []) (.back [])))) (.back [])))) (.fin [])))))) (p:=(t.rows.map aE).length≤9223372036854775807→wO t.name∧(((!(dV t.name))=true→(false)=(aT t)∧True)∧((!(dV t.name))=false→eZ t.arity (1:Int) (3:Int)∧(((!(dP t.arity (1:Int) (3:Int)))=true→(false)=(aT t)∧True)∧((!(dP t.arity (1:Int) (3:Int)))=false→Lm aE t.rows∧(((decide ((8:Int)<((t.rows.length:Nat):Int)))=true→(false)=(aT t)∧True)∧((decide ((8:Int)<((t.rows.length:Nat):Int)))=false→(∃(k:Nat),(0:Int)=(k:Int)∧k≤t.rows.length∧(t.rows.take k).all (gH t.arity)=true∧(List.range (k - 1)).all (lD t.rows)=true)∧ ∀(k:Nat),(k≤t.rows.length∧(t.rows.take k).all (gH t.arity)=true∧(List.range (k - 1)).all (lD t.rows)=true)→Lm aE t.rows∧(((decide ((k:Int)<((t.rows.length:Nat):Int)))=true→0≤(k:Int)∧Em aE t.rows k fun e30=>aEY e30 t.arity∧(((!(gH t.arity e30))=true→(false)=(aT t)∧True)∧((!(gH t.arity e30))=false→((decide ((0:Int)<(k:Int)))=true→dB ((k:Int) - (1:Int))∧(0≤((k:Int) - (1:Int))∧Em aE t.rows (((k:Int) - (1:Int)).toNat) fun e44=>0≤(k:Int)∧Em aE t.rows k fun e49=>fM e44 e49∧(((decide ((0:Int)≤(bV e44 e49)))=true→(false)=(aT t)∧True)∧((decide ((0:Int)≤(bV e44 e49)))=false→dB ((k:Int)+(1:Int))∧ ∃(k' :Nat),((k:Int)+(1:Int))=(k' :Int)∧(k' ≤t.rows.length∧(t.rows.take k').all (gH t.arity)=true∧(List.range (k' - 1)).all (lD t.rows)=true)∧t.rows.length - k' <t.rows.length - k))))∧((decide ((0:Int)<(k:Int)))=false→dB ((k:Int)+(1:Int))∧ ∃(k' :Nat),((k:Int)+(1:Int))=(k' :Int)∧(k' ≤t.rows.length∧(t.rows.take k').all (gH t.arity)=true∧(List.range (k' - 1)).all (lD t.rows)=true)∧t.rows.length - k' <t.rows.length - k))))∧((decide ((k:Int)<((t.rows.length:Nat):Int)))=false→(true)=(aT t)∧True))))))))) (by kernel_rfl) ?_
 intro n0
 simp only [List.length_map] at n0
 refine ⟨aGk _,fun g8=>?_,fun g8=>?_⟩
 ·replace g8:=nt g8
  refine ⟨?_,trivial⟩
  ·first | (rw [aT,cG h30 g36];rfl) | (rw [aT,h8,hz];simp [*];done) | (rw [aT,hz];simp [*];done) | (rw [aT,h8];simp [*];done) | (simp [aT, *];done)
 ·replace g8:=nf g8
  refine ⟨iK _ _ _,fun g14=>?_,fun g14=>?_⟩
  ·replace g14:=nt g14
   refine ⟨?_,trivial⟩
   ·first | (rw [aT,cG h30 g36];rfl) | (rw [aT,h8,hz];simp [*];done) | (rw [aT,hz];simp [*];done) | (rw [aT,h8];simp [*];done) | (simp [aT, *];done)
  ·replace g14:=nf g14
   refine ⟨List.length_map _,fun c0=>?_,fun c0=>?_⟩
   ·replace c0:=yq c0
    have h8:decide ((t.rows.length:Int)≤8)=false:=by simp;omega
    refine ⟨?_,trivial⟩
    ·first | (rw [aT,cG h30 g36];rfl) | (rw [aT,h8,hz];simp [*];done) | (rw [aT,hz];simp [*];done) | (rw [aT,h8];simp [*];done) | (simp [aT, *];done)
   ·replace c0:=nq c0
    have h8:decide ((t.rows.length:Int)≤8)=true:=by simp;omega
    refine ⟨⟨0,rfl,Nat.zero_le _,rfl,rfl⟩,fun k ⟨hk,ha,hs⟩=>?_⟩
    refine ⟨List.length_map _,fun c1=>?_,fun c1=>?_⟩
    ·replace c1:=yq c1
     refine ⟨by omega,rfl,by omega,fun e30 h30=>?_⟩
     refine ⟨aNv _ _,fun g36=>?_,fun g36=>?_⟩
     ·replace g36:=nt g36
      refine ⟨?_,trivial⟩
      ·first | (rw [aT,cG h30 g36];rfl) | (rw [aT,h8,hz];simp [*];done) | (rw [aT,hz];simp [*];done) | (rw [aT,h8];simp [*];done) | (simp [aT, *];done)
     ·replace g36:=nf g36
      refine ⟨fun g39=>?_,fun g39=>?_⟩
      ·replace g39:=yq g39
       refine ⟨⟨by omega,by omega⟩,by omega,rfl,by omega,fun e44 h44=>?_⟩
       have i44:t.rows[k - 1]? =some e44:=by rw [←h44];congr 1;omega
       refine ⟨by omega,rfl,by omega,fun e49 h49=>?_⟩
       refine ⟨iI _ _,fun c2=>?_,fun c2=>?_⟩
       ·replace c2:=yq c2
        have hp:lD t.rows (k - 1)=false:=by rw [lD,bD i44,show k - 1+1=k by omega,bD h49];simp;omega
        have hz:aAG t.rows=false:=fF (by omega) hp
        refine ⟨?_,trivial⟩
        ·first | (rw [aT,cG h30 g36];rfl) | (rw [aT,h8,hz];simp [*];done) | (rw [aT,hz];simp [*];done) | (rw [aT,h8];simp [*];done) | (simp [aT, *];done)
       ·replace c2:=nq c2
        have hp:lD t.rows (k - 1)=true:=by rw [lD,bD i44,show k - 1+1=k by omega,bD h49];simp;omega
        have hs2:(List.range (k+1 - 1)).all (lD t.rows)=true:=by rw [show k+1 - 1=(k - 1)+1 by omega];exact iT hs hp
        refine ⟨⟨by omega,by omega⟩,?_⟩
        exact ⟨k+1,rfl,⟨by omega,dQ h30 ha g36,hs2⟩,by omega⟩
      ·replace g39:=nq g39
       have hs2:(List.range (k+1 - 1)).all (lD t.rows)=true:=by rw [show k=0 by omega];rfl
       refine ⟨⟨by omega,by omega⟩,?_⟩
       exact ⟨k+1,rfl,⟨by omega,dQ h30 ha g36,hs2⟩,by omega⟩
    ·replace c1:=nq c1
     have hall:=bU (by omega) ha
     have hz:aAG t.rows=true:=by rw [aAG,show t.rows.length - 1=k - 1 by omega,hs]
     refine ⟨?_,trivial⟩
     ·first | (rw [aT,cG h30 g36];rfl) | (rw [aT,h8,hz];simp [*];done) | (rw [aT,hz];simp [*];done) | (rw [aT,h8];simp [*];done) | (simp [aT, *];done)
end Go.Proofs.YtokkjaflmcjlhaaGreat
