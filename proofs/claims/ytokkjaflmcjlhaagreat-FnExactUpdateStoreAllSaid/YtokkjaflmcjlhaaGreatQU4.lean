/-
  Contracts and plain laws, joined: part 5.
-/
import Derived.Test.YtokkjaflmcjlhaaGreatQU3
namespace Go.Proofs.YtokkjaflmcjlhaaGreat
open Go.ChangeShapes Go.WideShapes Go.ChangeAt Go.RowKit
set_option linter.unusedVariables false
set_option linter.unusedSimpArgs false
set_option maxRecDepth 100000
set_option maxHeartbeats 4000000
def cC:List Int→List Int→Int
 | [],[]=>0
 | [],_::_=> -1
 | _::_,[]=>1
 | a::l,b::m=>if a<b then -1 else if b<a then 1 else cC l m
theorem eD: ∀{l m:List Int},cC l m=0↔l=m
 | [],[]=>by simp [cC]
 | [],_::_=>by simp [cC]
 | _::_,[]=>by simp [cC]
 | a::l,b::m=>by
   unfold cC
   split
   ·simp;omega
   ·split
    ·simp;omega
    ·rw [eD]
     have:a=b:=by omega
     simp [this]
theorem fC {α:Type} {l:List α} {k:Nat} {x:α} (h:l[k]? =some x):l.drop k=x::l.drop (k+1):=by
 obtain ⟨hk,rfl⟩:=List.getElem?_eq_some_iff.1 h
 exact List.drop_eq_getElem_cons hk
theorem qE {α:Type} {l:List α} {k:Nat} (h:l.length≤k):l.drop k= []:=List.drop_eq_nil_of_le h
theorem cF {l m:List Int} {k:Nat} (hk:k≤l.length∧k≤m.length) (hs: ¬k<l.length∨ ¬k<m.length):cC (l.drop k) (m.drop k)=if l.length<m.length then -1 else if m.length<l.length then 1 else 0:=by
 by_cases h1:k<l.length
 ·obtain ⟨x,hx⟩:=cE h1
  rw [fC hx,qE (l:=m) (by omega),cC,if_neg (by omega),if_pos (by omega)]
 ·rw [qE (l:=l) (by omega)]
  by_cases h2:k<m.length
  ·obtain ⟨x,hx⟩:=cE h2
   rw [fC hx,cC,if_pos (by omega)]
  ·rw [qE (l:=m) (by omega),cC,if_neg (by omega),if_neg (by omega)]
abbrev fA (l:List Int) (m:List Int):Prop:=dJ Tryz.prog 211 [.one (.sl 3 1 (l.map intD)),.one (.sl 3 1 (m.map intD))] (vI (cC l m)) []
theorem gH (l m:List Int):fA l m:=by
 refine aZ bR aT Tryz.func211 (by kernel_rfl) (.loop Nat (Q1 Nat) [5,6,7,8,9,10,11,12,13,14,15,16,17,18,19,20,21,22,23,24,25,26,27,28,29,30,31,32,33,34,35] [] (fun k=>[(5,vI (k:Int))]) (fun k=>[]) (fun k=>(k≤l.length∧k≤m.length)∧cC (l.drop k) (m.drop k)=cC l m) (fun k=>l.length - k) (fun k=> .len l.length<| .br (.len m.length<| .lit<| .lit<| .br (.elem _ intD l (fun e20=> .elem _ intD m (fun e24=> .br (.fin []) (.elem _ intD l (fun e29=> .elem _ intD m (fun e33=> .br (.fin []) (.back []))))))) (.len l.length<| .len m.length<| .br (.fin []) (.len l.length<| .len m.length<| .br (.fin []) (.fin [])))) (.len l.length<| .len m.length<| .br (.fin []) (.len l.length<| .len m.length<| .br (.fin []) (.fin []))))) (p:=(l.map intD).length≤9223372036854775807→(m.map intD).length≤9223372036854775807→(∃(k:Nat),(0:Int)=(k:Int)∧(k≤l.length∧k≤m.length)∧cC (l.drop k) (m.drop k)=cC l m)∧ ∀(k:Nat),((k≤l.length∧k≤m.length)∧cC (l.drop k) (m.drop k)=cC l m)→Lm intD l∧(((decide ((k:Int)<((l.length:Nat):Int)))=true→Lm intD m∧(((decide ((k:Int)<((m.length:Nat):Int)))=true→0≤(k:Int)∧Em intD l k fun e20=>0≤(k:Int)∧Em intD m k fun e24=>((decide (e20<e24))=true→(-1:Int)=(cC l m)∧True)∧((decide (e20<e24))=false→0≤(k:Int)∧Em intD l k fun e29=>0≤(k:Int)∧Em intD m k fun e33=>((decide (e33<e29))=true→(1:Int)=(cC l m)∧True)∧((decide (e33<e29))=false→dO ((k:Int)+(1:Int))∧ ∃(k' :Nat),((k:Int)+(1:Int))=(k' :Int)∧((k' ≤l.length∧k' ≤m.length)∧cC (l.drop k') (m.drop k')=cC l m)∧l.length - k' <l.length - k)))∧((decide ((k:Int)<((m.length:Nat):Int)))=false→Lm intD l∧(Lm intD m∧(((decide (((l.length:Nat):Int)<((m.length:Nat):Int)))=true→(-1:Int)=(cC l m)∧True)∧((decide (((l.length:Nat):Int)<((m.length:Nat):Int)))=false→Lm intD l∧(Lm intD m∧(((decide (((m.length:Nat):Int)<((l.length:Nat):Int)))=true→(1:Int)=(cC l m)∧True)∧((decide (((m.length:Nat):Int)<((l.length:Nat):Int)))=false→(0:Int)=(cC l m)∧True)))))))))∧((decide ((k:Int)<((l.length:Nat):Int)))=false→Lm intD l∧(Lm intD m∧(((decide (((l.length:Nat):Int)<((m.length:Nat):Int)))=true→(-1:Int)=(cC l m)∧True)∧((decide (((l.length:Nat):Int)<((m.length:Nat):Int)))=false→Lm intD l∧(Lm intD m∧(((decide (((m.length:Nat):Int)<((l.length:Nat):Int)))=true→(1:Int)=(cC l m)∧True)∧((decide (((m.length:Nat):Int)<((l.length:Nat):Int)))=false→(0:Int)=(cC l m)∧True))))))))) (by kernel_rfl) ?_
 intro n0 n1
 simp only [List.length_map] at n0 n1
 refine ⟨⟨0,rfl,⟨Nat.zero_le _,Nat.zero_le _⟩,rfl⟩,fun k ⟨hk,hv⟩=>?_⟩
 refine ⟨List.length_map _,fun g10=>?_,fun g10=>?_⟩
 ·replace g10:=yq g10
  refine ⟨List.length_map _,fun c0=>?_,fun c0=>?_⟩
  ·replace c0:=yq c0
   obtain ⟨x,hx⟩:=cE (l:=l) (k:=k) (by omega)
   obtain ⟨y,hy⟩:=cE (l:=m) (k:=k) (by omega)
   have hd:cC l m=if x<y then -1 else if y<x then 1 else cC (l.drop (k+1)) (m.drop (k+1)):=by rw [←hv,fC hx,fC hy,cC]
   refine ⟨by omega,rfl,by omega,fun e20 h20=>?_⟩
   obtain rfl:=(aV hx h20).symm
   refine ⟨by omega,rfl,by omega,fun e24 h24=>?_⟩
   obtain rfl:=(aV hy h24).symm
   refine ⟨fun c1=>?_,fun c1=>?_⟩
   ·replace c1:=yq c1
    refine ⟨?_,trivial⟩
    ·first | (rw [hd,if_pos c1];done) | (rw [hd,if_neg c1,if_pos c2];done) | (rw [←hv,cF hk (by omega),if_pos (by omega)];done) | (rw [←hv,cF hk (by omega),if_neg (by omega),if_pos (by omega)];done) | (rw [←hv,cF hk (by omega),if_neg (by omega),if_neg (by omega)];done)
   ·replace c1:=nq c1
    refine ⟨by omega,rfl,by omega,fun e29 h29=>?_⟩
    obtain rfl:=(aV hx h29).symm
    refine ⟨by omega,rfl,by omega,fun e33 h33=>?_⟩
    obtain rfl:=(aV hy h33).symm
    refine ⟨fun c2=>?_,fun c2=>?_⟩
    ·replace c2:=yq c2
     refine ⟨?_,trivial⟩
     ·first | (rw [hd,if_pos c1];done) | (rw [hd,if_neg c1,if_pos c2];done) | (rw [←hv,cF hk (by omega),if_pos (by omega)];done) | (rw [←hv,cF hk (by omega),if_neg (by omega),if_pos (by omega)];done) | (rw [←hv,cF hk (by omega),if_neg (by omega),if_neg (by omega)];done)
    ·replace c2:=nq c2
     refine ⟨⟨by omega,by omega⟩,?_⟩
     exact ⟨k+1,rfl,⟨by omega,by rw [hd,if_neg c1,if_neg c2]⟩,by omega⟩
  ·replace c0:=nq c0
   refine ⟨List.length_map _,List.length_map _,fun c3=>?_,fun c3=>?_⟩
   ·replace c3:=yq c3
    refine ⟨?_,trivial⟩
    ·first | (rw [hd,if_pos c1];done) | (rw [hd,if_neg c1,if_pos c2];done) | (rw [←hv,cF hk (by omega),if_pos (by omega)];done) | (rw [←hv,cF hk (by omega),if_neg (by omega),if_pos (by omega)];done) | (rw [←hv,cF hk (by omega),if_neg (by omega),if_neg (by omega)];done)
   ·replace c3:=nq c3
    refine ⟨List.length_map _,List.length_map _,fun c4=>?_,fun c4=>?_⟩
    ·replace c4:=yq c4
     refine ⟨?_,trivial⟩
     ·first | (rw [hd,if_pos c1];done) | (rw [hd,if_neg c1,if_pos c2];done) | (rw [←hv,cF hk (by omega),if_pos (by omega)];done) | (rw [←hv,cF hk (by omega),if_neg (by omega),if_pos (by omega)];done) | (rw [←hv,cF hk (by omega),if_neg (by omega),if_neg (by omega)];done)
    ·replace c4:=nq c4
     refine ⟨?_,trivial⟩
     ·first | (rw [hd,if_pos c1];done) | (rw [hd,if_neg c1,if_pos c2];done) | (rw [←hv,cF hk (by omega),if_pos (by omega)];done) | (rw [←hv,cF hk (by omega),if_neg (by omega),if_pos (by omega)];done) | (rw [←hv,cF hk (by omega),if_neg (by omega),if_neg (by omega)];done)
 ·replace g10:=nq g10
  refine ⟨List.length_map _,List.length_map _,fun c3=>?_,fun c3=>?_⟩
  ·replace c3:=yq c3
   refine ⟨?_,trivial⟩
   ·first | (rw [hd,if_pos c1];done) | (rw [hd,if_neg c1,if_pos c2];done) | (rw [←hv,cF hk (by omega),if_pos (by omega)];done) | (rw [←hv,cF hk (by omega),if_neg (by omega),if_pos (by omega)];done) | (rw [←hv,cF hk (by omega),if_neg (by omega),if_neg (by omega)];done)
  ·replace c3:=nq c3
   refine ⟨List.length_map _,List.length_map _,fun c4=>?_,fun c4=>?_⟩
   ·replace c4:=yq c4
    refine ⟨?_,trivial⟩
    ·first | (rw [hd,if_pos c1];done) | (rw [hd,if_neg c1,if_pos c2];done) | (rw [←hv,cF hk (by omega),if_pos (by omega)];done) | (rw [←hv,cF hk (by omega),if_neg (by omega),if_pos (by omega)];done) | (rw [←hv,cF hk (by omega),if_neg (by omega),if_neg (by omega)];done)
   ·replace c4:=nq c4
    refine ⟨?_,trivial⟩
    ·first | (rw [hd,if_pos c1];done) | (rw [hd,if_neg c1,if_pos c2];done) | (rw [←hv,cF hk (by omega),if_pos (by omega)];done) | (rw [←hv,cF hk (by omega),if_neg (by omega),if_pos (by omega)];done) | (rw [←hv,cF hk (by omega),if_neg (by omega),if_neg (by omega)];done)
theorem aPY {x y:aH} (h1:x.columns=y.columns) (h2:x.values=y.values) (h3:x.counts=y.counts):x=y:=by
 obtain ⟨a,b,c⟩:=x
 obtain ⟨d,e,f⟩:=y
 simp at h1 h2 h3
 subst h1 h2 h3
 rfl
abbrev vU (a:aG) (b:aG):Prop:=dJ Tryz.prog 204 [.agg [.str a.name,.int .i64 a.arity,.int .i64 a.rowCount,.sl 218 3 (a.groups.map aC)],.agg [.str b.name,.int .i64 b.arity,.int .i64 b.rowCount,.sl 218 3 (b.groups.map aC)]] (vB (decide (a=b))) []
theorem aGc (a b:aG) (ha:bC a≤1048576):vU a b:=by
 refine aZ bR aT Tryz.func204 (by kernel_rfl) (.br (.fin []) (.lit<| .lit<| .lit<| .lit<| .lit<| .br (.fin []) (.lit<| .lit<| .lit<| .lit<| .lit<| .br (.fin []) (.len a.groups.length<| .len b.groups.length<| .lit<| .lit<| .br (.fin []) (.loop Nat (Q1 Nat) [5,6,7,8,37,38,39,40,41,42,43,44,45,46,47,48,49,50,51,52,53,54,55,56,57,58,59,60,61,62,63,64,65,66,67,68,69,70,71,72,73,74,75,76,77,78,79,80,81,82,83,84,85,86,87,88,89,90,91,92,93,94,95] [600,700] (fun i=>[(5,vI (i:Int))]) (fun i=>[]) (fun i=>i≤a.groups.length∧a.groups.take i=b.groups.take i) (fun i=>a.groups.length - i) (fun i=> .len a.groups.length<| .br (.elem _ aC a.groups (fun e47=> .elem _ aC b.groups (fun e52=> .call (vI (cC e47.columns e52.columns)) []<| .br (.fin []) (.call (vI (cC e47.counts e52.counts)) []<| .lit<| .lit<| .br (.fin []) (.len e47.values.length<| .len e52.values.length<| .lit<| .lit<| .br (.fin []) (.loop Nat (Q1 Nat) [8,77,78,79,80,81,82,83,84,85,86,87,88,89,90,91,92,93,94,95] [] (fun k=>[(8,vI (k:Int))]) (fun k=>[]) (fun k=>k≤e47.values.length∧e47.values.take k=e52.values.take k) (fun k=>e47.values.length - k) (fun k=> .len e47.values.length<| .br (.elem _ aF e47.values (fun e87=> .elem _ aF e52.values (fun e92=> .call (vI (cC e87 e92)) []<| .br (.fin []) (.back [])))) (.back [])))))))) (.fin []))))))) (p:=(a.groups.map aC).length≤9223372036854775807→(b.groups.map aC).length≤9223372036854775807→((!(a.name.toList==b.name.toList))=true→(false)=(decide (a=b))∧True)∧((!(a.name.toList==b.name.toList))=false→((!(decide (a.arity=b.arity)))=true→(false)=(decide (a=b))∧True)∧((!(decide (a.arity=b.arity)))=false→((!(decide (a.rowCount=b.rowCount)))=true→(false)=(decide (a=b))∧True)∧((!(decide (a.rowCount=b.rowCount)))=false→Lm aC a.groups∧(Lm aC b.groups∧(((!(decide (((a.groups.length:Nat):Int)=((b.groups.length:Nat):Int))))=true→(false)=(decide (a=b))∧True)∧((!(decide (((a.groups.length:Nat):Int)=((b.groups.length:Nat):Int))))=false→(∃(i:Nat),(0:Int)=(i:Int)∧i≤a.groups.length∧a.groups.take i=b.groups.take i)∧ ∀(i:Nat),(i≤a.groups.length∧a.groups.take i=b.groups.take i)→Lm aC a.groups∧(((decide ((i:Int)<((a.groups.length:Nat):Int)))=true→0≤(i:Int)∧Em aC a.groups i fun e47=>0≤(i:Int)∧Em aC b.groups i fun e52=>fA e47.columns e52.columns∧(((!(decide ((cC e47.columns e52.columns)=(0:Int))))=true→(false)=(decide (a=b))∧True)∧((!(decide ((cC e47.columns e52.columns)=(0:Int))))=false→fA e47.counts e52.counts∧(((!(decide ((cC e47.counts e52.counts)=(0:Int))))=true→(false)=(decide (a=b))∧True)∧((!(decide ((cC e47.counts e52.counts)=(0:Int))))=false→Lm aF e47.values∧(Lm aF e52.values∧(((!(decide (((e47.values.length:Nat):Int)=((e52.values.length:Nat):Int))))=true→(false)=(decide (a=b))∧True)∧((!(decide (((e47.values.length:Nat):Int)=((e52.values.length:Nat):Int))))=false→(∃(k:Nat),(0:Int)=(k:Int)∧k≤e47.values.length∧e47.values.take k=e52.values.take k)∧ ∀(k:Nat),(k≤e47.values.length∧e47.values.take k=e52.values.take k)→Lm aF e47.values∧(((decide ((k:Int)<((e47.values.length:Nat):Int)))=true→0≤(k:Int)∧Em aF e47.values k fun e87=>0≤(k:Int)∧Em aF e52.values k fun e92=>fA e87 e92∧(((!(decide ((cC e87 e92)=(0:Int))))=true→(false)=(decide (a=b))∧True)∧((!(decide ((cC e87 e92)=(0:Int))))=false→dO ((k:Int)+(1:Int))∧ ∃(k' :Nat),((k:Int)+(1:Int))=(k' :Int)∧(k' ≤e47.values.length∧e47.values.take k' =e52.values.take k')∧e47.values.length - k' <e47.values.length - k)))∧((decide ((k:Int)<((e47.values.length:Nat):Int)))=false→dO ((i:Int)+(1:Int))∧ ∃(i' :Nat),((i:Int)+(1:Int))=(i' :Int)∧(i' ≤a.groups.length∧a.groups.take i' =b.groups.take i')∧a.groups.length - i' <a.groups.length - i))))))))))∧((decide ((i:Int)<((a.groups.length:Nat):Int)))=false→(true)=(decide (a=b))∧True))))))))) (by kernel_rfl) ?_
 intro n0 n1
 simp only [List.length_map] at n0 n1
 refine ⟨fun g14=>?_,fun g14=>?_⟩
 ·replace g14:=nt g14
  refine ⟨?_,trivial⟩
  ·first | (simp [hne];done) | (rw [dE];simp_all [jH];done)
 ·replace g14:=nf g14
  refine ⟨fun g21=>?_,fun g21=>?_⟩
  ·replace g21:=nq (nt g21)
   refine ⟨?_,trivial⟩
   ·first | (simp [hne];done) | (rw [dE];simp_all [jH];done)
  ·replace g21:=yq (nf g21)
   refine ⟨fun g28=>?_,fun g28=>?_⟩
   ·replace g28:=nq (nt g28)
    refine ⟨?_,trivial⟩
    ·first | (simp [hne];done) | (rw [dE];simp_all [jH];done)
   ·replace g28:=yq (nf g28)
    refine ⟨List.length_map _,List.length_map _,fun c0=>?_,fun c0=>?_⟩
    ·replace c0:=nq (nt c0)
     have hne: ¬a=b:=fun e=>c0 (by rw [e])
     refine ⟨?_,trivial⟩
     ·first | (simp [hne];done) | (rw [dE];simp_all [jH];done)
    ·replace c0:=yq (nf c0)
     have hl:a.groups.length=b.groups.length:=by omega
     refine ⟨⟨0,rfl,Nat.zero_le _,rfl⟩,fun i ⟨hi,ht⟩=>?_⟩
     refine ⟨List.length_map _,fun c1=>?_,fun c1=>?_⟩
     ·replace c1:=yq c1
      refine ⟨by omega,rfl,by omega,fun e47 h47=>?_⟩
      have q1:=lH h47
      have q2:bC a=a.name.size+cS a.groups:=rfl
      have q3:bD e47=bZ e47.columns+cP e47.values+bZ e47.counts:=rfl
      have q4:=fO e47.values
      refine ⟨by omega,rfl,by omega,fun e52 h52=>?_⟩
      refine ⟨gH _ _,fun g60=>?_,fun g60=>?_⟩
      ·replace g60:=nq (nt g60)
       have hne: ¬a=b:=fun e=>by subst e;have q:=aV h47 h52;subst q;exact g60 (eD.2 rfl)
       refine ⟨?_,trivial⟩
       ·first | (simp [hne];done) | (rw [dE];simp_all [jH];done)
      ·replace g60:=yq (nf g60)
       refine ⟨gH _ _,fun g68=>?_,fun g68=>?_⟩
       ·replace g68:=nq (nt g68)
        have hne: ¬a=b:=fun e=>by subst e;have q:=aV h47 h52;subst q;exact g68 (eD.2 rfl)
        refine ⟨?_,trivial⟩
        ·first | (simp [hne];done) | (rw [dE];simp_all [jH];done)
       ·replace g68:=yq (nf g68)
        refine ⟨List.length_map _,List.length_map _,fun c2=>?_,fun c2=>?_⟩
        ·replace c2:=nq (nt c2)
         have hne: ¬a=b:=fun e=>by subst e;have q:=aV h47 h52;subst q;exact c2 rfl
         refine ⟨?_,trivial⟩
         ·first | (simp [hne];done) | (rw [dE];simp_all [jH];done)
        ·replace c2:=yq (nf c2)
         refine ⟨⟨0,rfl,Nat.zero_le _,rfl⟩,fun k ⟨hk,hv⟩=>?_⟩
         refine ⟨List.length_map _,fun c3=>?_,fun c3=>?_⟩
         ·replace c3:=yq c3
          refine ⟨by omega,rfl,by omega,fun e87 h87=>?_⟩
          refine ⟨by omega,rfl,by omega,fun e92 h92=>?_⟩
          refine ⟨gH _ _,fun c4=>?_,fun c4=>?_⟩
          ·replace c4:=nq (nt c4)
           have hne: ¬a=b:=fun e=>by subst e;have q:=aV h47 h52;subst q;have q:=aV h87 h92;subst q;exact c4 (eD.2 rfl)
           refine ⟨?_,trivial⟩
           ·first | (simp [hne];done) | (rw [dE];simp_all [jH];done)
          ·replace c4:=yq (nf c4)
           refine ⟨⟨by omega,by omega⟩,?_⟩
           exact ⟨k+1,rfl,⟨by omega,lW h87 (by rw [h92,eD.1 c4]) hv⟩,by omega⟩
         ·replace c3:=nq c3
          have hxy:e52=e47:=(aPY (eD.1 g60) (fS (by omega) (by omega) hv) (eD.1 g68)).symm
          refine ⟨⟨by omega,by omega⟩,?_⟩
          exact ⟨i+1,rfl,⟨by omega,lW h47 (by rw [h52,hxy]) ht⟩,by omega⟩
     ·replace c1:=nq c1
      have hg:=fS (by omega) hl ht
      refine ⟨?_,trivial⟩
      ·first | (simp [hne];done) | (rw [dE];simp_all [jH];done)
abbrev aAk (a:cA) (b:cA):Prop:=dJ Tryz.prog 129 [.agg [.int .i64 a.version,.sl 121 4 (a.tables.map aA)],.agg [.int .i64 b.version,.sl 121 4 (b.tables.map aA)]] (vB (decide (a=b))) []
theorem aJD (a b:cA) (ha:bK a≤1048576):aAk a b:=by
 refine aZ bR aT Tryz.func129 (by kernel_rfl) (.br (.fin []) (.len a.tables.length<| .len b.tables.length<| .lit<| .lit<| .br (.fin []) (.loop Nat (Q1 Nat) [5,20,21,22,23,24,25,26,27,28,29,30,31,32,33,34,35,36,37,38] [] (fun k=>[(5,vI (k:Int))]) (fun k=>[]) (fun k=>k≤a.tables.length∧a.tables.take k=b.tables.take k) (fun k=>a.tables.length - k) (fun k=> .len a.tables.length<| .br (.elem _ aA a.tables (fun e30=> .elem _ aA b.tables (fun e35=> .call (vB (decide (e30=e35))) []<| .br (.fin []) (.back [])))) (.fin []))))) (p:=(a.tables.map aA).length≤9223372036854775807→(b.tables.map aA).length≤9223372036854775807→((!(decide (a.version=b.version)))=true→(false)=(decide (a=b))∧True)∧((!(decide (a.version=b.version)))=false→Lm aA a.tables∧(Lm aA b.tables∧(((!(decide (((a.tables.length:Nat):Int)=((b.tables.length:Nat):Int))))=true→(false)=(decide (a=b))∧True)∧((!(decide (((a.tables.length:Nat):Int)=((b.tables.length:Nat):Int))))=false→(∃(k:Nat),(0:Int)=(k:Int)∧k≤a.tables.length∧a.tables.take k=b.tables.take k)∧ ∀(k:Nat),(k≤a.tables.length∧a.tables.take k=b.tables.take k)→Lm aA a.tables∧(((decide ((k:Int)<((a.tables.length:Nat):Int)))=true→0≤(k:Int)∧Em aA a.tables k fun e30=>0≤(k:Int)∧Em aA b.tables k fun e35=>vU e30 e35∧(((!(decide (e30=e35)))=true→(false)=(decide (a=b))∧True)∧((!(decide (e30=e35)))=false→dO ((k:Int)+(1:Int))∧ ∃(k' :Nat),((k:Int)+(1:Int))=(k' :Int)∧(k' ≤a.tables.length∧a.tables.take k' =b.tables.take k')∧a.tables.length - k' <a.tables.length - k)))∧((decide ((k:Int)<((a.tables.length:Nat):Int)))=false→(true)=(decide (a=b))∧True))))))) (by kernel_rfl) ?_
 intro n0 n1
 simp only [List.length_map] at n0 n1
 have hS:bK a=cT a.tables:=rfl
 refine ⟨fun g11=>?_,fun g11=>?_⟩
 ·replace g11:=nq (nt g11)
  refine ⟨?_,trivial⟩
  ·first | (simp [hne];done) | (rw [gK];simp_all;done)
 ·replace g11:=yq (nf g11)
  refine ⟨List.length_map _,List.length_map _,fun c0=>?_,fun c0=>?_⟩
  ·replace c0:=nq (nt c0)
   have hne: ¬a=b:=fun e=>c0 (by rw [e])
   refine ⟨?_,trivial⟩
   ·first | (simp [hne];done) | (rw [gK];simp_all;done)
  ·replace c0:=yq (nf c0)
   have hl:a.tables.length=b.tables.length:=by omega
   refine ⟨⟨0,rfl,Nat.zero_le _,rfl⟩,fun k ⟨hk,ht⟩=>?_⟩
   refine ⟨List.length_map _,fun c1=>?_,fun c1=>?_⟩
   ·replace c1:=yq c1
    refine ⟨by omega,rfl,by omega,fun e30 h30=>?_⟩
    refine ⟨by omega,rfl,by omega,fun e35 h35=>?_⟩
    refine ⟨aGc _ _ (by have:=lI h30;omega),fun c2=>?_,fun c2=>?_⟩
    ·replace c2:=nq (nt c2)
     have hne: ¬a=b:=fun e=>by subst e;exact c2 (aV h35 h30)
     refine ⟨?_,trivial⟩
     ·first | (simp [hne];done) | (rw [gK];simp_all;done)
    ·replace c2:=yq (nf c2)
     refine ⟨⟨by omega,by omega⟩,?_⟩
     exact ⟨k+1,rfl,⟨by omega,lW h30 (by rw [h35,c2]) ht⟩,by omega⟩
   ·replace c1:=nq c1
    have hg:=fS (by omega) hl ht
    refine ⟨?_,trivial⟩
    ·first | (simp [hne];done) | (rw [gK];simp_all;done)
abbrev jV (n:Int) (a:Int) (b:Int):Prop:=dJ Tryz.prog 102 [.one (.int .i64 n),.one (.int .i64 a),.one (.int .i64 b)] (vB (gG n a b)) []
theorem pE (n a b:Int):jV n a b:=by
 refine aZ bR aT Tryz.func102 (by kernel_rfl) (.br (.fin []) (.fin [])) (p:=((decide (a≤n))=true→(decide (n≤b))=(gG n a b)∧True)∧((decide (a≤n))=false→(false)=(gG n a b)∧True)) (by kernel_rfl) ?_
 refine ⟨fun g10=>?_,fun g10=>?_⟩
 ·replace g10:=yq g10
  refine ⟨?_,trivial⟩
  ·first | (simp [gG,g10];done) | (simp [gG];omega)
 ·replace g10:=nq g10
  refine ⟨?_,trivial⟩
  ·first | (simp [gG,g10];done) | (simp [gG];omega)
abbrev jW (n:Int) (a:Int) (b:Int):Prop:=dJ Tryz.prog 99 [.one (.int .i64 n),.one (.int .i64 a),.one (.int .i64 b)] (vB (gG n a b)) []
theorem pF (n a b:Int):jW n a b:=by
 refine aZ bR aT Tryz.func99 (by kernel_rfl) (.br (.fin []) (.fin [])) (p:=((decide (a≤n))=true→(decide (n≤b))=(gG n a b)∧True)∧((decide (a≤n))=false→(false)=(gG n a b)∧True)) (by kernel_rfl) ?_
 refine ⟨fun g10=>?_,fun g10=>?_⟩
 ·replace g10:=yq g10
  refine ⟨?_,trivial⟩
  ·first | (simp [gG,g10];done) | (simp [gG];omega)
 ·replace g10:=nq g10
  refine ⟨?_,trivial⟩
  ·first | (simp [gG,g10];done) | (simp [gG];omega)
def aAl (v:Int):Bool:=gG v 0 9
def fE (n:Int) (r:List Int):Bool:=r.all aAl&&decide ((r.length:Int)=n)
def eP (s:ByteArray):Bool:=decide ((s.size:Int)=1)&&(decide (97≤pZ s 0)&&decide (pZ s 0≤122))
abbrev zI (r:List Int) (n:Int):Prop:=dJ Tryz.prog 226 [.one (.sl 3 1 (r.map intD)),.one (.int .i64 n)] (vB (fE n r)) []
theorem aHj (r:List Int) (n:Int):zI r n:=by
 refine aZ bR aT Tryz.func226 (by kernel_rfl) (.len r.length<| .loop Nat (Q1 Nat) [6,9,10,11,12,13,14,15,16] [] (fun k=>[(9,vI (k:Int))]) (fun k=>[]) (fun k=>k≤r.length∧(r.take k).all aAl=true) (fun k=>r.length - k) (fun k=> .br (.elem _ intD r (fun e11=> .call (vB (gG e11 (0:Int) (9:Int))) []<| .br (.fin []) (.back []))) (.len r.length<| .fin []))) (p:=(r.map intD).length≤9223372036854775807→Lm intD r∧((∃(k:Nat),(0:Int)=(k:Int)∧k≤r.length∧(r.take k).all aAl=true)∧ ∀(k:Nat),(k≤r.length∧(r.take k).all aAl=true)→((decide ((k:Int)<((r.length:Nat):Int)))=true→0≤(k:Int)∧Em intD r k fun e11=>jV e11 (0:Int) (9:Int)∧(((!(gG e11 (0:Int) (9:Int)))=true→(false)=(fE n r)∧True)∧((!(gG e11 (0:Int) (9:Int)))=false→dO ((k:Int)+(1:Int))∧ ∃(k' :Nat),((k:Int)+(1:Int))=(k' :Int)∧(k' ≤r.length∧(r.take k').all aAl=true)∧r.length - k' <r.length - k)))∧((decide ((k:Int)<((r.length:Nat):Int)))=false→Lm intD r∧(decide (((r.length:Nat):Int)=n))=(fE n r)∧True))) (by kernel_rfl) ?_
 intro n0
 simp only [List.length_map] at n0
 refine ⟨List.length_map _,⟨0,rfl,Nat.zero_le _,rfl⟩,fun k ⟨hk,ha⟩=>?_⟩
 refine ⟨fun c0=>?_,fun c0=>?_⟩
 ·replace c0:=yq c0
  refine ⟨by omega,rfl,by omega,fun e11 h11=>?_⟩
  refine ⟨pE _ _ _,fun c1=>?_,fun c1=>?_⟩
  ·replace c1:=nt c1
   refine ⟨?_,trivial⟩
   ·first | (rw [fE,dM h11 c1];rfl) | (rw [fE,cZ (by omega) ha];simp)
  ·replace c1:=nf c1
   refine ⟨⟨by omega,by omega⟩,?_⟩
   exact ⟨k+1,rfl,⟨by omega,eZ h11 ha c1⟩,by omega⟩
 ·replace c0:=nq c0
  refine ⟨List.length_map _,?_,trivial⟩
  ·first | (rw [fE,dM h11 c1];rfl) | (rw [fE,cZ (by omega) ha];simp)
abbrev zJ (r:List Int) (n:Int):Prop:=dJ Tryz.prog 208 [.one (.sl 3 1 (r.map intD)),.one (.int .i64 n)] (vB (fE n r)) []
theorem aHk (r:List Int) (n:Int):zJ r n:=by
 refine aZ bR aT Tryz.func208 (by kernel_rfl) (.loop Nat (Q1 Nat) [5,6,7,8,9,10,11,12,13,14,15,16,17] [] (fun k=>[(5,vI (k:Int))]) (fun k=>[]) (fun k=>k≤r.length∧(r.take k).all aAl=true) (fun k=>r.length - k) (fun k=> .len r.length<| .br (.elem _ intD r (fun e14=> .call (vB (gG e14 (0:Int) (9:Int))) []<| .br (.fin []) (.back []))) (.len r.length<| .fin []))) (p:=(r.map intD).length≤9223372036854775807→(∃(k:Nat),(0:Int)=(k:Int)∧k≤r.length∧(r.take k).all aAl=true)∧ ∀(k:Nat),(k≤r.length∧(r.take k).all aAl=true)→Lm intD r∧(((decide ((k:Int)<((r.length:Nat):Int)))=true→0≤(k:Int)∧Em intD r k fun e14=>jW e14 (0:Int) (9:Int)∧(((!(gG e14 (0:Int) (9:Int)))=true→(false)=(fE n r)∧True)∧((!(gG e14 (0:Int) (9:Int)))=false→dO ((k:Int)+(1:Int))∧ ∃(k' :Nat),((k:Int)+(1:Int))=(k' :Int)∧(k' ≤r.length∧(r.take k').all aAl=true)∧r.length - k' <r.length - k)))∧((decide ((k:Int)<((r.length:Nat):Int)))=false→Lm intD r∧(decide (((r.length:Nat):Int)=n))=(fE n r)∧True))) (by kernel_rfl) ?_
 intro n0
 simp only [List.length_map] at n0
 refine ⟨⟨0,rfl,Nat.zero_le _,rfl⟩,fun k ⟨hk,ha⟩=>?_⟩
 refine ⟨List.length_map _,fun c0=>?_,fun c0=>?_⟩
 ·replace c0:=yq c0
  refine ⟨by omega,rfl,by omega,fun e14 h14=>?_⟩
  refine ⟨pF _ _ _,fun c1=>?_,fun c1=>?_⟩
  ·replace c1:=nt c1
   refine ⟨?_,trivial⟩
   ·first | (rw [fE,dM h14 c1];rfl) | (rw [fE,cZ (by omega) ha];simp)
  ·replace c1:=nf c1
   refine ⟨⟨by omega,by omega⟩,?_⟩
   exact ⟨k+1,rfl,⟨by omega,eZ h14 ha c1⟩,by omega⟩
 ·replace c0:=nq c0
  refine ⟨List.length_map _,?_,trivial⟩
  ·first | (rw [fE,dM h14 c1];rfl) | (rw [fE,cZ (by omega) ha];simp)
abbrev aCE (s:ByteArray):Prop:=dJ Tryz.prog 253 [.one (.str s)] (vB (eP s)) []
theorem aKm (s:ByteArray):aCE s:=by
 refine aZ bR aT Tryz.func253 (by kernel_rfl) (.br (.lit<| .lit<| .lit<| .br (.fin []) (.fin [])) (.fin [])) (p:=((decide (((s.size:Nat):Int)=(1:Int)))=true→0≤(0:Int)∧(0:Int)<((s.size:Nat):Int)∧(((decide ((97:Int)≤(pZ s 0)))=true→0≤(0:Int)∧(0:Int)<((s.size:Nat):Int)∧(decide ((pZ s 0)≤(122:Int)))=(eP s)∧True)∧((decide ((97:Int)≤(pZ s 0)))=false→(false)=(eP s)∧True)))∧((decide (((s.size:Nat):Int)=(1:Int)))=false→(false)=(eP s)∧True)) (by kernel_rfl) ?_
 refine ⟨fun g6=>?_,fun g6=>?_⟩
 ·replace g6:=yq g6
  refine ⟨by omega,by omega,fun g11=>?_,fun g11=>?_⟩
  ·replace g11:=yq g11
   refine ⟨by omega,by omega,?_,trivial⟩
   ·first | (simp [eP,g6];done) | (simp [eP,g6,g11];done) | (simp [eP, *];done)
  ·replace g11:=nq g11
   refine ⟨?_,trivial⟩
   ·first | (simp [eP,g6];done) | (simp [eP,g6,g11];done) | (simp [eP, *];done)
 ·replace g6:=nq g6
  refine ⟨?_,trivial⟩
  ·first | (simp [eP,g6];done) | (simp [eP,g6,g11];done) | (simp [eP, *];done)
abbrev aCF (s:ByteArray):Prop:=dJ Tryz.prog 243 [.one (.str s)] (vB (eP s)) []
theorem aKn (s:ByteArray):aCF s:=by
 refine aZ bR aT Tryz.func243 (by kernel_rfl) (.br (.lit<| .lit<| .lit<| .br (.fin []) (.fin [])) (.fin [])) (p:=((decide (((s.size:Nat):Int)=(1:Int)))=true→0≤(0:Int)∧(0:Int)<((s.size:Nat):Int)∧(((decide ((97:Int)≤(pZ s 0)))=true→0≤(0:Int)∧(0:Int)<((s.size:Nat):Int)∧(decide ((pZ s 0)≤(122:Int)))=(eP s)∧True)∧((decide ((97:Int)≤(pZ s 0)))=false→(false)=(eP s)∧True)))∧((decide (((s.size:Nat):Int)=(1:Int)))=false→(false)=(eP s)∧True)) (by kernel_rfl) ?_
 refine ⟨fun g6=>?_,fun g6=>?_⟩
 ·replace g6:=yq g6
  refine ⟨by omega,by omega,fun g11=>?_,fun g11=>?_⟩
  ·replace g11:=yq g11
   refine ⟨by omega,by omega,?_,trivial⟩
   ·first | (simp [eP,g6];done) | (simp [eP,g6,g11];done) | (simp [eP, *];done)
  ·replace g11:=nq g11
   refine ⟨?_,trivial⟩
   ·first | (simp [eP,g6];done) | (simp [eP,g6,g11];done) | (simp [eP, *];done)
 ·replace g6:=nq g6
  refine ⟨?_,trivial⟩
  ·first | (simp [eP,g6];done) | (simp [eP,g6,g11];done) | (simp [eP, *];done)
abbrev aBb (n:Int):Prop:=dJ Tryz.prog 314 [.one (.int .i64 n)] (vB false) []
theorem aJw (n:Int):aBb n:=by
 refine aZ bR aT Tryz.func314 (by kernel_rfl) (.fin []) (p:=(!(decide (n=n)))=false∧True) (by kernel_rfl) ?_
 refine ⟨?_,trivial⟩
 ·simp
def qT (a b:Int):Int:=if a<b then -1 else if b<a then 1 else 0
abbrev aFi (a:Int) (b:Int):Prop:=dJ Tryz.prog 308 [.one (.int .i64 a),.one (.int .i64 b)] (vI (qT a b)) []
theorem aOF (a b:Int):aFi a b:=by
 refine aZ bR aT Tryz.func308 (by kernel_rfl) (.call (vB false) []<| .call (vB false) []<| .lit<| .lit<| .br (.fin []) (.br (.fin []) (.fin []))) (p:=aBb a∧(aBb b∧(((decide (a<b))=true→(-1:Int)=(qT a b)∧True)∧((decide (a<b))=false→((decide (b<a))=true→(1:Int)=(qT a b)∧True)∧((decide (b<a))=false→(0:Int)=(qT a b)∧True))))) (by kernel_rfl) ?_
 refine ⟨aJw _,aJw _,fun c3=>?_,fun c3=>?_⟩
 ·replace c3:=yq c3
  refine ⟨?_,trivial⟩
  ·simp [qT, *];try omega
 ·replace c3:=nq c3
  refine ⟨fun c4=>?_,fun c4=>?_⟩
  ·replace c4:=yq c4
   refine ⟨?_,trivial⟩
   ·simp [qT, *];try omega
  ·replace c4:=nq c4
   refine ⟨?_,trivial⟩
   ·simp [qT, *];try omega
theorem aFj (a b:Int) (l m:List Int):cC (a::l) (b::m)=if qT a b=0 then cC l m else qT a b:=by
 unfold qT
 rw [cC]
 by_cases h1:a<b
 ·simp [h1]
 ·by_cases h2:b<a
  ·simp [h1,h2]
  ·simp [h1,h2]
abbrev aMb (l:List Int) (m:List Int):Prop:=dJ Tryz.prog 285 [.one (.sl 3 1 (l.map intD)),.one (.sl 3 1 (m.map intD))] (vI (cC l m)) []
theorem aQH (l m:List Int):aMb l m:=by
 refine aZ bR aT Tryz.func285 (by kernel_rfl) (.len l.length<| .loop Nat (Q1 Nat) [5,6,7,8,11,12,13,14,15,16,17,18,19,20,21,22,23,24,25,26,27,28,30] [] (fun k=>[(11,vI (k:Int))]) (fun k=>[]) (fun k=>(k≤l.length∧k≤m.length)∧cC (l.drop k) (m.drop k)=cC l m) (fun k=>l.length - k) (fun k=> .br (.elem _ intD l (fun e14=> .len m.length<| .br (.fin []) (.elem _ intD m (fun e22=> .call (vI (qT e14 e22)) []<| .br (.fin []) (.back []))))) (.len l.length<| .len m.length<| .br (.fin []) (.fin [])))) (p:=(l.map intD).length≤9223372036854775807→(m.map intD).length≤9223372036854775807→Lm intD l∧((∃(k:Nat),(0:Int)=(k:Int)∧(k≤l.length∧k≤m.length)∧cC (l.drop k) (m.drop k)=cC l m)∧ ∀(k:Nat),((k≤l.length∧k≤m.length)∧cC (l.drop k) (m.drop k)=cC l m)→((decide ((k:Int)<((l.length:Nat):Int)))=true→0≤(k:Int)∧Em intD l k fun e14=>Lm intD m∧(((decide (((m.length:Nat):Int)≤(k:Int)))=true→(1:Int)=(cC l m)∧True)∧((decide (((m.length:Nat):Int)≤(k:Int)))=false→0≤(k:Int)∧Em intD m k fun e22=>aFi e14 e22∧(((!(decide ((qT e14 e22)=(0:Int))))=true→(qT e14 e22)=(cC l m)∧True)∧((!(decide ((qT e14 e22)=(0:Int))))=false→dO ((k:Int)+(1:Int))∧ ∃(k' :Nat),((k:Int)+(1:Int))=(k' :Int)∧((k' ≤l.length∧k' ≤m.length)∧cC (l.drop k') (m.drop k')=cC l m)∧l.length - k' <l.length - k)))))∧((decide ((k:Int)<((l.length:Nat):Int)))=false→Lm intD l∧(Lm intD m∧(((decide (((l.length:Nat):Int)<((m.length:Nat):Int)))=true→(-1:Int)=(cC l m)∧True)∧((decide (((l.length:Nat):Int)<((m.length:Nat):Int)))=false→(0:Int)=(cC l m)∧True)))))) (by kernel_rfl) ?_
 intro n0 n1
 simp only [List.length_map] at n0 n1
 refine ⟨List.length_map _,⟨0,rfl,⟨Nat.zero_le _,Nat.zero_le _⟩,rfl⟩,fun k ⟨hk,hv⟩=>?_⟩
 refine ⟨fun c0=>?_,fun c0=>?_⟩
 ·replace c0:=yq c0
  obtain ⟨x,hx⟩:=cE (l:=l) (k:=k) (by omega)
  refine ⟨by omega,rfl,by omega,fun e14 h14=>?_⟩
  obtain rfl:=(aV hx h14).symm
  refine ⟨List.length_map _,fun c1=>?_,fun c1=>?_⟩
  ·replace c1:=yq c1
   refine ⟨?_,trivial⟩
   ·first | (rw [hd,if_neg c2];done) | (rw [←hv,cF hk (by omega),if_neg (by omega),if_pos (by omega)];done) | (rw [←hv,cF hk (by omega),if_pos (by omega)];done) | (rw [←hv,cF hk (by omega),if_neg (by omega),if_neg (by omega)];done)
  ·replace c1:=nq c1
   obtain ⟨y,hy⟩:=cE (l:=m) (k:=k) (by omega)
   have hd:cC l m=if qT x y=0 then cC (l.drop (k+1)) (m.drop (k+1)) else qT x y:=by rw [←hv,fC hx,fC hy,aFj]
   refine ⟨by omega,rfl,by omega,fun e22 h22=>?_⟩
   obtain rfl:=(aV hy h22).symm
   refine ⟨aOF _ _,fun c2=>?_,fun c2=>?_⟩
   ·replace c2:=nq (nt c2)
    refine ⟨?_,trivial⟩
    ·first | (rw [hd,if_neg c2];done) | (rw [←hv,cF hk (by omega),if_neg (by omega),if_pos (by omega)];done) | (rw [←hv,cF hk (by omega),if_pos (by omega)];done) | (rw [←hv,cF hk (by omega),if_neg (by omega),if_neg (by omega)];done)
   ·replace c2:=yq (nf c2)
    refine ⟨⟨by omega,by omega⟩,?_⟩
    exact ⟨k+1,rfl,⟨by omega,by rw [hd,if_pos c2]⟩,by omega⟩
 ·replace c0:=nq c0
  refine ⟨List.length_map _,List.length_map _,fun c3=>?_,fun c3=>?_⟩
  ·replace c3:=yq c3
   refine ⟨?_,trivial⟩
   ·first | (rw [hd,if_neg c2];done) | (rw [←hv,cF hk (by omega),if_neg (by omega),if_pos (by omega)];done) | (rw [←hv,cF hk (by omega),if_pos (by omega)];done) | (rw [←hv,cF hk (by omega),if_neg (by omega),if_neg (by omega)];done)
  ·replace c3:=nq c3
   refine ⟨?_,trivial⟩
   ·first | (rw [hd,if_neg c2];done) | (rw [←hv,cF hk (by omega),if_neg (by omega),if_pos (by omega)];done) | (rw [←hv,cF hk (by omega),if_pos (by omega)];done) | (rw [←hv,cF hk (by omega),if_neg (by omega),if_neg (by omega)];done)
abbrev vV (l:List Int) (m:List Int):Prop:=dJ Tryz.prog 269 [.one (.sl 3 1 (l.map intD)),.one (.sl 3 1 (m.map intD))] (vI (cC l m)) []
theorem aGd (l m:List Int):vV l m:=by
 refine aZ bR aT Tryz.func269 (by kernel_rfl) (.call (vI (cC l m)) []<| .fin []) (p:=(l.map intD).length≤9223372036854775807→(m.map intD).length≤9223372036854775807→aMb l m∧(cC l m)=(cC l m)∧True) (by kernel_rfl) ?_
 intro n0 n1
 simp only [List.length_map] at n0 n1
 refine ⟨aQH _ _,?_⟩
 exact ⟨rfl,trivial⟩
def lB (l:List (List Int)) (i:Nat):Bool:=decide (cC (l.getD i []) (l.getD (i+1) [])<0)
def zK (l:List (List Int)):Bool:=(List.range (l.length - 1)).all (lB l)
def aS (t:aN):Bool:=t.rows.all (fE t.arity)&&(eP t.name&&(gG t.arity 1 3&&(decide ((t.rows.length:Int)≤8)&&zK t.rows)))
theorem kE {p:Nat→Bool} {k:Nat} (h:(List.range k).all p=true) (hk:p k=true):(List.range (k+1)).all p=true:=by
 rw [List.range_succ,List.all_append,h];simp [hk]
theorem gW {p:Nat→Bool} {n k:Nat} (hk:k<n) (h:p k=false):(List.range n).all p=false:=by
 rw [List.all_eq_false];exact ⟨k,List.mem_range.2 hk,by simp [h]⟩
theorem cM {α:Type} {l:List α} {k:Nat} {x y:α} (h:l[k]? =some x):l.getD k y=x:=by simp [List.getD_eq_getElem?_getD,h]
abbrev aDf (l:List (List Int)):Prop:=dJ Tryz.prog 264 [.one (.sl 32 1 (l.map aF))] (vB (zK l)) []
theorem aMc (l:List (List Int)):aDf l:=by
 refine aZ bR aT Tryz.func264 (by kernel_rfl) (.loop Nat (Q1 Nat) [3,4,5,6,7,8,9,10,11,12,13,14,15,16,17,18,19,20] [] (fun k=>[(3,vI (((k:Nat):Int)+1))]) (fun k=>[]) (fun k=>(k+1≤l.length∨k=0)∧(List.range k).all (lB l)=true) (fun k=>l.length - k) (fun k=> .len l.length<| .br (.elem _ aF l (fun e13=> .elem _ aF l (fun e17=> .call (vI (cC e13 e17)) []<| .br (.fin []) (.back [])))) (.fin []))) (p:=(l.map aF).length≤9223372036854775807→(∃(k:Nat),(1:Int)=(((k:Nat):Int)+1)∧(k+1≤l.length∨k=0)∧(List.range k).all (lB l)=true)∧ ∀(k:Nat),((k+1≤l.length∨k=0)∧(List.range k).all (lB l)=true)→Lm aF l∧(((decide ((((k:Nat):Int)+1)<((l.length:Nat):Int)))=true→dO ((((k:Nat):Int)+1) - (1:Int))∧(0≤((((k:Nat):Int)+1) - (1:Int))∧Em aF l (((((k:Nat):Int)+1) - (1:Int)).toNat) fun e13=>0≤(((k:Nat):Int)+1)∧Em aF l (k+1) fun e17=>vV e13 e17∧(((decide ((0:Int)≤(cC e13 e17)))=true→(false)=(zK l)∧True)∧((decide ((0:Int)≤(cC e13 e17)))=false→dO ((((k:Nat):Int)+1)+(1:Int))∧ ∃(k' :Nat),((((k:Nat):Int)+1)+(1:Int))=(((k' :Nat):Int)+1)∧((k' +1≤l.length∨k' =0)∧(List.range k').all (lB l)=true)∧l.length - k' <l.length - k))))∧((decide ((((k:Nat):Int)+1)<((l.length:Nat):Int)))=false→(true)=(zK l)∧True))) (by kernel_rfl) ?_
 intro n0
 simp only [List.length_map] at n0
 refine ⟨⟨0,rfl,.inr rfl,rfl⟩,fun k ⟨hk,ha⟩=>?_⟩
 refine ⟨List.length_map _,fun c0=>?_,fun c0=>?_⟩
 ·replace c0:=yq c0
  refine ⟨⟨by omega,by omega⟩,by omega,rfl,by omega,fun e13 h13=>?_⟩
  have i13:l[k]? =some e13:=by rw [←h13];congr 1;omega
  refine ⟨by omega,rfl,by omega,fun e17 h17=>?_⟩
  refine ⟨aGd _ _,fun c1=>?_,fun c1=>?_⟩
  ·replace c1:=yq c1
   have hp:lB l k=false:=by rw [lB,cM i13,cM h17];simp;omega
   refine ⟨?_,trivial⟩
   ·first | (rw [zK,gW (by omega) hp];done) | (rw [zK,show l.length - 1=k by omega,ha];done)
  ·replace c1:=nq c1
   have hp:lB l k=true:=by rw [lB,cM i13,cM h17];simp;omega
   refine ⟨⟨by omega,by omega⟩,?_⟩
   exact ⟨k+1,rfl,⟨by omega,kE ha hp⟩,by omega⟩
 ·replace c0:=nq c0
  refine ⟨?_,trivial⟩
  ·first | (rw [zK,gW (by omega) hp];done) | (rw [zK,show l.length - 1=k by omega,ha];done)
abbrev lN (t:aN):Prop:=dJ Tryz.prog 225 [.agg [.str t.name,.int .i64 t.arity,.sl 32 1 (t.rows.map aF)]] (vB (aS t)) []
theorem sH (t:aN):lN t:=by
 refine aZ bR aT Tryz.func225 (by kernel_rfl) (.len t.rows.length<| .loop Nat (Q1 Nat) [4,8,9,10,11,12,13,14,15,16,17] [] (fun k=>[(8,vI (k:Int))]) (fun k=>[]) (fun k=>k≤t.rows.length∧(t.rows.take k).all (fE t.arity)=true) (fun k=>t.rows.length - k) (fun k=> .br (.elem _ aF t.rows (fun e10=> .call (vB (fE t.arity e10)) []<| .br (.fin []) (.back []))) (.call (vB (eP t.name)) []<| .br (.call (vB (gG t.arity (1:Int) (3:Int))) []<| .lit<| .br (.len t.rows.length<| .lit<| .lit<| .br (.call (vB (zK t.rows)) []<| .fin []) (.fin [])) (.fin [])) (.fin [])))) (p:=(t.rows.map aF).length≤9223372036854775807→Lm aF t.rows∧((∃(k:Nat),(0:Int)=(k:Int)∧k≤t.rows.length∧(t.rows.take k).all (fE t.arity)=true)∧ ∀(k:Nat),(k≤t.rows.length∧(t.rows.take k).all (fE t.arity)=true)→((decide ((k:Int)<((t.rows.length:Nat):Int)))=true→0≤(k:Int)∧Em aF t.rows k fun e10=>zI e10 t.arity∧(((!(fE t.arity e10))=true→(false)=(aS t)∧True)∧((!(fE t.arity e10))=false→dO ((k:Int)+(1:Int))∧ ∃(k' :Nat),((k:Int)+(1:Int))=(k' :Int)∧(k' ≤t.rows.length∧(t.rows.take k').all (fE t.arity)=true)∧t.rows.length - k' <t.rows.length - k)))∧((decide ((k:Int)<((t.rows.length:Nat):Int)))=false→aCE t.name∧(((eP t.name)=true→jV t.arity (1:Int) (3:Int)∧(((gG t.arity (1:Int) (3:Int))=true→Lm aF t.rows∧(((decide (((t.rows.length:Nat):Int)≤(8:Int)))=true→aDf t.rows∧(zK t.rows)=(aS t)∧True)∧((decide (((t.rows.length:Nat):Int)≤(8:Int)))=false→(false)=(aS t)∧True)))∧((gG t.arity (1:Int) (3:Int))=false→(false)=(aS t)∧True)))∧((eP t.name)=false→(false)=(aS t)∧True))))) (by kernel_rfl) ?_
 intro n0
 simp only [List.length_map] at n0
 refine ⟨List.length_map _,⟨0,rfl,Nat.zero_le _,rfl⟩,fun k ⟨hk,ha⟩=>?_⟩
 refine ⟨fun c0=>?_,fun c0=>?_⟩
 ·replace c0:=yq c0
  refine ⟨by omega,rfl,by omega,fun e10 h10=>?_⟩
  refine ⟨aHj _ _,fun c1=>?_,fun c1=>?_⟩
  ·replace c1:=nt c1
   refine ⟨?_,trivial⟩
   ·first | (rw [aS,dM h10 c1];rfl) | (simp [aS,hall, *];done)
  ·replace c1:=nf c1
   refine ⟨⟨by omega,by omega⟩,?_⟩
   exact ⟨k+1,rfl,⟨by omega,eZ h10 ha c1⟩,by omega⟩
 ·replace c0:=nq c0
  have hall:=cZ (by omega) ha
  refine ⟨aKm _,fun g21=>?_,fun g21=>?_⟩
  ·refine ⟨pE _ _ _,fun g26=>?_,fun g26=>?_⟩
   ·refine ⟨List.length_map _,fun g32=>?_,fun g32=>?_⟩
    ·replace g32:=yq g32
     refine ⟨aMc _,?_,trivial⟩
     ·first | (rw [aS,dM h10 c1];rfl) | (simp [aS,hall, *];done)
    ·replace g32:=nq g32
     refine ⟨?_,trivial⟩
     ·first | (rw [aS,dM h10 c1];rfl) | (simp [aS,hall, *];done)
   ·refine ⟨?_,trivial⟩
    ·first | (rw [aS,dM h10 c1];rfl) | (simp [aS,hall, *];done)
  ·refine ⟨?_,trivial⟩
   ·first | (rw [aS,dM h10 c1];rfl) | (simp [aS,hall, *];done)
abbrev lO (t:aN):Prop:=dJ Tryz.prog 207 [.agg [.str t.name,.int .i64 t.arity,.sl 32 1 (t.rows.map aF)]] (vB (aS t)) []
theorem sI (t:aN):lO t:=by
 refine aZ bR aT Tryz.func207 (by kernel_rfl) (.call (vB (eP t.name)) []<| .br (.fin []) (.call (vB (gG t.arity (1:Int) (3:Int))) []<| .lit<| .lit<| .br (.fin []) (.len t.rows.length<| .lit<| .lit<| .br (.fin []) (.loop Nat (Q1 Nat) [3,20,21,22,23,24,25,26,27,28,29,30,31,32,33,34,35,36,37,38,39,40,41,42,43,44,45,46,47,48,49,50,51,52,53,54] [] (fun k=>[(3,vI (k:Int))]) (fun k=>[]) (fun k=>k≤t.rows.length∧(t.rows.take k).all (fE t.arity)=true∧(List.range (k - 1)).all (lB t.rows)=true) (fun k=>t.rows.length - k) (fun k=> .len t.rows.length<| .br (.elem _ aF t.rows (fun e30=> .call (vB (fE t.arity e30)) []<| .br (.fin []) (.lit<| .lit<| .br (.elem _ aF t.rows (fun e44=> .elem _ aF t.rows (fun e49=> .call (vI (cC e44 e49)) []<| .lit<| .lit<| .lit<| .lit<| .br (.fin []) (.back [])))) (.back [])))) (.fin [])))))) (p:=(t.rows.map aF).length≤9223372036854775807→aCF t.name∧(((!(eP t.name))=true→(false)=(aS t)∧True)∧((!(eP t.name))=false→jW t.arity (1:Int) (3:Int)∧(((!(gG t.arity (1:Int) (3:Int)))=true→(false)=(aS t)∧True)∧((!(gG t.arity (1:Int) (3:Int)))=false→Lm aF t.rows∧(((decide ((8:Int)<((t.rows.length:Nat):Int)))=true→(false)=(aS t)∧True)∧((decide ((8:Int)<((t.rows.length:Nat):Int)))=false→(∃(k:Nat),(0:Int)=(k:Int)∧k≤t.rows.length∧(t.rows.take k).all (fE t.arity)=true∧(List.range (k - 1)).all (lB t.rows)=true)∧ ∀(k:Nat),(k≤t.rows.length∧(t.rows.take k).all (fE t.arity)=true∧(List.range (k - 1)).all (lB t.rows)=true)→Lm aF t.rows∧(((decide ((k:Int)<((t.rows.length:Nat):Int)))=true→0≤(k:Int)∧Em aF t.rows k fun e30=>zJ e30 t.arity∧(((!(fE t.arity e30))=true→(false)=(aS t)∧True)∧((!(fE t.arity e30))=false→((decide ((0:Int)<(k:Int)))=true→dO ((k:Int) - (1:Int))∧(0≤((k:Int) - (1:Int))∧Em aF t.rows (((k:Int) - (1:Int)).toNat) fun e44=>0≤(k:Int)∧Em aF t.rows k fun e49=>fA e44 e49∧(((decide ((0:Int)≤(cC e44 e49)))=true→(false)=(aS t)∧True)∧((decide ((0:Int)≤(cC e44 e49)))=false→dO ((k:Int)+(1:Int))∧ ∃(k' :Nat),((k:Int)+(1:Int))=(k' :Int)∧(k' ≤t.rows.length∧(t.rows.take k').all (fE t.arity)=true∧(List.range (k' - 1)).all (lB t.rows)=true)∧t.rows.length - k' <t.rows.length - k))))∧((decide ((0:Int)<(k:Int)))=false→dO ((k:Int)+(1:Int))∧ ∃(k' :Nat),((k:Int)+(1:Int))=(k' :Int)∧(k' ≤t.rows.length∧(t.rows.take k').all (fE t.arity)=true∧(List.range (k' - 1)).all (lB t.rows)=true)∧t.rows.length - k' <t.rows.length - k))))∧((decide ((k:Int)<((t.rows.length:Nat):Int)))=false→(true)=(aS t)∧True))))))))) (by kernel_rfl) ?_
 intro n0
 simp only [List.length_map] at n0
 refine ⟨aKn _,fun g8=>?_,fun g8=>?_⟩
 ·replace g8:=nt g8
  refine ⟨?_,trivial⟩
  ·first | (rw [aS,dM h30 g36];rfl) | (rw [aS,h8,hz];simp [*];done) | (rw [aS,hz];simp [*];done) | (rw [aS,h8];simp [*];done) | (simp [aS, *];done)
 ·replace g8:=nf g8
  refine ⟨pF _ _ _,fun g14=>?_,fun g14=>?_⟩
  ·replace g14:=nt g14
   refine ⟨?_,trivial⟩
   ·first | (rw [aS,dM h30 g36];rfl) | (rw [aS,h8,hz];simp [*];done) | (rw [aS,hz];simp [*];done) | (rw [aS,h8];simp [*];done) | (simp [aS, *];done)
  ·replace g14:=nf g14
   refine ⟨List.length_map _,fun c0=>?_,fun c0=>?_⟩
   ·replace c0:=yq c0
    have h8:decide ((t.rows.length:Int)≤8)=false:=by simp;omega
    refine ⟨?_,trivial⟩
    ·first | (rw [aS,dM h30 g36];rfl) | (rw [aS,h8,hz];simp [*];done) | (rw [aS,hz];simp [*];done) | (rw [aS,h8];simp [*];done) | (simp [aS, *];done)
   ·replace c0:=nq c0
    have h8:decide ((t.rows.length:Int)≤8)=true:=by simp;omega
    refine ⟨⟨0,rfl,Nat.zero_le _,rfl,rfl⟩,fun k ⟨hk,ha,hs⟩=>?_⟩
    refine ⟨List.length_map _,fun c1=>?_,fun c1=>?_⟩
    ·replace c1:=yq c1
     refine ⟨by omega,rfl,by omega,fun e30 h30=>?_⟩
     refine ⟨aHk _ _,fun g36=>?_,fun g36=>?_⟩
     ·replace g36:=nt g36
      refine ⟨?_,trivial⟩
      ·first | (rw [aS,dM h30 g36];rfl) | (rw [aS,h8,hz];simp [*];done) | (rw [aS,hz];simp [*];done) | (rw [aS,h8];simp [*];done) | (simp [aS, *];done)
     ·replace g36:=nf g36
      refine ⟨fun g39=>?_,fun g39=>?_⟩
      ·replace g39:=yq g39
       refine ⟨⟨by omega,by omega⟩,by omega,rfl,by omega,fun e44 h44=>?_⟩
       have i44:t.rows[k - 1]? =some e44:=by rw [←h44];congr 1;omega
       refine ⟨by omega,rfl,by omega,fun e49 h49=>?_⟩
       refine ⟨gH _ _,fun c2=>?_,fun c2=>?_⟩
       ·replace c2:=yq c2
        have hp:lB t.rows (k - 1)=false:=by rw [lB,cM i44,show k - 1+1=k by omega,cM h49];simp;omega
        have hz:zK t.rows=false:=gW (by omega) hp
        refine ⟨?_,trivial⟩
        ·first | (rw [aS,dM h30 g36];rfl) | (rw [aS,h8,hz];simp [*];done) | (rw [aS,hz];simp [*];done) | (rw [aS,h8];simp [*];done) | (simp [aS, *];done)
       ·replace c2:=nq c2
        have hp:lB t.rows (k - 1)=true:=by rw [lB,cM i44,show k - 1+1=k by omega,cM h49];simp;omega
        have hs2:(List.range (k+1 - 1)).all (lB t.rows)=true:=by rw [show k+1 - 1=(k - 1)+1 by omega];exact kE hs hp
        refine ⟨⟨by omega,by omega⟩,?_⟩
        exact ⟨k+1,rfl,⟨by omega,eZ h30 ha g36,hs2⟩,by omega⟩
      ·replace g39:=nq g39
       have hs2:(List.range (k+1 - 1)).all (lB t.rows)=true:=by rw [show k=0 by omega];rfl
       refine ⟨⟨by omega,by omega⟩,?_⟩
       exact ⟨k+1,rfl,⟨by omega,eZ h30 ha g36,hs2⟩,by omega⟩
    ·replace c1:=nq c1
     have hall:=cZ (by omega) ha
     have hz:zK t.rows=true:=by rw [zK,show t.rows.length - 1=k - 1 by omega,hs]
     refine ⟨?_,trivial⟩
     ·first | (rw [aS,dM h30 g36];rfl) | (rw [aS,h8,hz];simp [*];done) | (rw [aS,hz];simp [*];done) | (rw [aS,h8];simp [*];done) | (simp [aS, *];done)
end Go.Proofs.YtokkjaflmcjlhaaGreat
