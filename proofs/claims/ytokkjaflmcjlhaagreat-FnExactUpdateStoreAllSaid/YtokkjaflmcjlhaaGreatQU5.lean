/-
  Contracts and plain laws, joined: part 6.
-/
import Derived.Test.YtokkjaflmcjlhaaGreatQU4
import Derived.IntWalk
import Derived.Test.YtokkjaflmcjlhaaGreatQU3
import Derived.Deep.RegionHeld3
import Derived.BigRegion
import Derived.Deep.LoopGhost
import Derived.Shelf.SlSortCmp.Insertion
namespace Go.Proofs.YtokkjaflmcjlhaaGreat
open Go.ChangeShapes Go.WideShapes Go.ChangeAt Go.RowKit
set_option linter.unusedVariables false
set_option linter.unusedSimpArgs false
set_option maxRecDepth 100000
set_option maxHeartbeats 4000000
def fP (l:List aN) (i:Nat):Bool:=Op.bytesLess (l.getD i fJ).name.toList (l.getD (i+1) fJ).name.toList
def eB (d:aP):Bool:=d.tables.all aS&&((List.range (d.tables.length - 1)).all (fP d.tables)&&decide ((d.tables.length:Int)≤6))
abbrev xZ (t:aP):Prop:=dJ Tryz.prog 154 [.agg [.sl 162 3 (t.tables.map aD)]] (vB (eB t)) []
theorem aGe (t:aP):xZ t:=by
 refine aZ bR aT Tryz.func154 (by kernel_rfl) (.len t.tables.length<| .loop Nat (Q1 Nat) [3,4,8,9,10,11,12,13,14,15,16,17,18,19,20,21,22,23,24,25,26,27,28,29,30,31,32] [400] (fun k=>[(8,vI (k:Int))]) (fun k=>[]) (fun k=>k≤t.tables.length∧(t.tables.take k).all aS=true∧(List.range (k - 1)).all (fP t.tables)=true) (fun k=>t.tables.length - k) (fun k=> .br (.elem _ aD t.tables (fun e11=> .call (vB (aS e11)) []<| .br (.fin []) (.lit<| .lit<| .br (.elem _ aD t.tables (fun e24=> .lit<| .lit<| .lit<| .lit<| .lit<| .lit<| .lit<| .lit<| .br (.fin []) (.back []))) (.back [])))) (.len t.tables.length<| .fin []))) (p:=(t.tables.map aD).length≤9223372036854775807→Lm aD t.tables∧((∃(k:Nat),(0:Int)=(k:Int)∧k≤t.tables.length∧(t.tables.take k).all aS=true∧(List.range (k - 1)).all (fP t.tables)=true)∧ ∀(k:Nat),(k≤t.tables.length∧(t.tables.take k).all aS=true∧(List.range (k - 1)).all (fP t.tables)=true)→((decide ((k:Int)<((t.tables.length:Nat):Int)))=true→0≤(k:Int)∧Em aD t.tables k fun e11=>lN e11∧(((!(aS e11))=true→(false)=(eB t)∧True)∧((!(aS e11))=false→((decide ((0:Int)<(k:Int)))=true→dO ((k:Int) - (1:Int))∧(0≤((k:Int) - (1:Int))∧Em aD t.tables (((k:Int) - (1:Int)).toNat) fun e24=>((!(Op.bytesLess e24.name.toList e11.name.toList))=true→(false)=(eB t)∧True)∧((!(Op.bytesLess e24.name.toList e11.name.toList))=false→dO ((k:Int)+(1:Int))∧ ∃(k' :Nat),((k:Int)+(1:Int))=(k' :Int)∧(k' ≤t.tables.length∧(t.tables.take k').all aS=true∧(List.range (k' - 1)).all (fP t.tables)=true)∧t.tables.length - k' <t.tables.length - k)))∧((decide ((0:Int)<(k:Int)))=false→dO ((k:Int)+(1:Int))∧ ∃(k' :Nat),((k:Int)+(1:Int))=(k' :Int)∧(k' ≤t.tables.length∧(t.tables.take k').all aS=true∧(List.range (k' - 1)).all (fP t.tables)=true)∧t.tables.length - k' <t.tables.length - k))))∧((decide ((k:Int)<((t.tables.length:Nat):Int)))=false→Lm aD t.tables∧(decide (((t.tables.length:Nat):Int)≤(6:Int)))=(eB t)∧True))) (by kernel_rfl) ?_
 intro n0
 simp only [List.length_map] at n0
 refine ⟨List.length_map _,⟨0,rfl,Nat.zero_le _,rfl,rfl⟩,fun k ⟨hk,ha,hs⟩=>?_⟩
 refine ⟨fun c0=>?_,fun c0=>?_⟩
 ·replace c0:=yq c0
  refine ⟨by omega,rfl,by omega,fun e11 h11=>?_⟩
  refine ⟨sH e11,fun g16=>?_,fun g16=>?_⟩
  ·replace g16:=nt g16
   refine ⟨?_,trivial⟩
   ·first | (rw [eB,dM h11 g16];rfl) | (rw [eB,hz];simp [*];done) | (rw [eB,hz];simp;done)
  ·replace g16:=nf g16
   refine ⟨fun g19=>?_,fun g19=>?_⟩
   ·replace g19:=yq g19
    refine ⟨⟨by omega,by omega⟩,by omega,rfl,by omega,fun e24 h24=>?_⟩
    have i1:t.tables[k - 1]? =some e24:=by rw [←h24];congr 1;omega
    refine ⟨fun c1=>?_,fun c1=>?_⟩
    ·replace c1:=nt c1
     have hp:fP t.tables (k - 1)=false:=by rw [fP,cM i1,show k - 1+1=k by omega,cM h11];simpa using c1
     have hz:(List.range (t.tables.length - 1)).all (fP t.tables)=false:=gW (by omega) hp
     refine ⟨?_,trivial⟩
     ·first | (rw [eB,dM h11 g16];rfl) | (rw [eB,hz];simp [*];done) | (rw [eB,hz];simp;done)
    ·replace c1:=nf c1
     have hp:fP t.tables (k - 1)=true:=by rw [fP,cM i1,show k - 1+1=k by omega,cM h11];simpa using c1
     have hs2:(List.range (k+1 - 1)).all (fP t.tables)=true:=by rw [show k+1 - 1=(k - 1)+1 by omega];exact kE hs hp
     refine ⟨⟨by omega,by omega⟩,?_⟩
     exact ⟨k+1,rfl,⟨by omega,eZ h11 ha g16,hs2⟩,by omega⟩
   ·replace g19:=nq g19
    have hs2:(List.range (k+1 - 1)).all (fP t.tables)=true:=by rw [show k=0 by omega];rfl
    refine ⟨⟨by omega,by omega⟩,?_⟩
    exact ⟨k+1,rfl,⟨by omega,eZ h11 ha g16,hs2⟩,by omega⟩
 ·replace c0:=nq c0
  have hall:=cZ (by omega) ha
  have hz:(List.range (t.tables.length - 1)).all (fP t.tables)=true:=by rw [show t.tables.length - 1=k - 1 by omega,hs]
  refine ⟨List.length_map _,?_,trivial⟩
  ·first | (rw [eB,dM h11 g16];rfl) | (rw [eB,hz];simp [*];done) | (rw [eB,hz];simp;done)
abbrev pK (t:aP):Prop:=dJ Tryz.prog 138 [.agg [.sl 162 3 (t.tables.map aD)]] (vB (eB t)) []
theorem aAm (t:aP):pK t:=by
 refine aZ bR aT Tryz.func138 (by kernel_rfl) (.loop Nat (Q1 Nat) [3,4,5,6,7,8,9,10,11,12,13,14,15,16,17,18,19,20,21,22,23,24,25,26,27,28,29,30,31,32,33,34,35,36,37] [] (fun k=>[(3,vI (k:Int))]) (fun k=>[]) (fun k=>k≤t.tables.length∧(t.tables.take k).all aS=true∧(List.range (k - 1)).all (fP t.tables)=true) (fun k=>t.tables.length - k) (fun k=> .len t.tables.length<| .br (.elem _ aD t.tables (fun e14=> .call (vB (aS e14)) []<| .br (.fin []) (.lit<| .lit<| .br (.elem _ aD t.tables (fun e26=> .elem _ aD t.tables (fun e32=> .lit<| .lit<| .lit<| .lit<| .lit<| .lit<| .br (.fin []) (.back [])))) (.back [])))) (.len t.tables.length<| .fin []))) (p:=(t.tables.map aD).length≤9223372036854775807→(∃(k:Nat),(0:Int)=(k:Int)∧k≤t.tables.length∧(t.tables.take k).all aS=true∧(List.range (k - 1)).all (fP t.tables)=true)∧ ∀(k:Nat),(k≤t.tables.length∧(t.tables.take k).all aS=true∧(List.range (k - 1)).all (fP t.tables)=true)→Lm aD t.tables∧(((decide ((k:Int)<((t.tables.length:Nat):Int)))=true→0≤(k:Int)∧Em aD t.tables k fun e14=>lO e14∧(((!(aS e14))=true→(false)=(eB t)∧True)∧((!(aS e14))=false→((decide ((0:Int)<(k:Int)))=true→dO ((k:Int) - (1:Int))∧(0≤((k:Int) - (1:Int))∧Em aD t.tables (((k:Int) - (1:Int)).toNat) fun e26=>0≤(k:Int)∧Em aD t.tables k fun e32=>((!(Op.bytesLess e26.name.toList e32.name.toList))=true→(false)=(eB t)∧True)∧((!(Op.bytesLess e26.name.toList e32.name.toList))=false→dO ((k:Int)+(1:Int))∧ ∃(k' :Nat),((k:Int)+(1:Int))=(k' :Int)∧(k' ≤t.tables.length∧(t.tables.take k').all aS=true∧(List.range (k' - 1)).all (fP t.tables)=true)∧t.tables.length - k' <t.tables.length - k)))∧((decide ((0:Int)<(k:Int)))=false→dO ((k:Int)+(1:Int))∧ ∃(k' :Nat),((k:Int)+(1:Int))=(k' :Int)∧(k' ≤t.tables.length∧(t.tables.take k').all aS=true∧(List.range (k' - 1)).all (fP t.tables)=true)∧t.tables.length - k' <t.tables.length - k))))∧((decide ((k:Int)<((t.tables.length:Nat):Int)))=false→Lm aD t.tables∧(decide (((t.tables.length:Nat):Int)≤(6:Int)))=(eB t)∧True))) (by kernel_rfl) ?_
 intro n0
 simp only [List.length_map] at n0
 refine ⟨⟨0,rfl,Nat.zero_le _,rfl,rfl⟩,fun k ⟨hk,ha,hs⟩=>?_⟩
 refine ⟨List.length_map _,fun c0=>?_,fun c0=>?_⟩
 ·replace c0:=yq c0
  refine ⟨by omega,rfl,by omega,fun e14 h14=>?_⟩
  refine ⟨sI e14,fun g18=>?_,fun g18=>?_⟩
  ·replace g18:=nt g18
   refine ⟨?_,trivial⟩
   ·first | (rw [eB,dM h14 g18];rfl) | (rw [eB,hz];simp [*];done) | (rw [eB,hz];simp;done)
  ·replace g18:=nf g18
   refine ⟨fun g21=>?_,fun g21=>?_⟩
   ·replace g21:=yq g21
    refine ⟨⟨by omega,by omega⟩,by omega,rfl,by omega,fun e26 h26=>?_⟩
    have i1:t.tables[k - 1]? =some e26:=by rw [←h26];congr 1;omega
    refine ⟨by omega,rfl,by omega,fun e32 h32=>?_⟩
    refine ⟨fun c1=>?_,fun c1=>?_⟩
    ·replace c1:=nt c1
     have hp:fP t.tables (k - 1)=false:=by rw [fP,cM i1,show k - 1+1=k by omega,cM h32];simpa using c1
     have hz:(List.range (t.tables.length - 1)).all (fP t.tables)=false:=gW (by omega) hp
     refine ⟨?_,trivial⟩
     ·first | (rw [eB,dM h14 g18];rfl) | (rw [eB,hz];simp [*];done) | (rw [eB,hz];simp;done)
    ·replace c1:=nf c1
     have hp:fP t.tables (k - 1)=true:=by rw [fP,cM i1,show k - 1+1=k by omega,cM h32];simpa using c1
     have hs2:(List.range (k+1 - 1)).all (fP t.tables)=true:=by rw [show k+1 - 1=(k - 1)+1 by omega];exact kE hs hp
     refine ⟨⟨by omega,by omega⟩,?_⟩
     exact ⟨k+1,rfl,⟨by omega,eZ h14 ha g18,hs2⟩,by omega⟩
   ·replace g21:=nq g21
    have hs2:(List.range (k+1 - 1)).all (fP t.tables)=true:=by rw [show k=0 by omega];rfl
    refine ⟨⟨by omega,by omega⟩,?_⟩
    exact ⟨k+1,rfl,⟨by omega,eZ h14 ha g18,hs2⟩,by omega⟩
 ·replace c0:=nq c0
  have hall:=cZ (by omega) ha
  have hz:(List.range (t.tables.length - 1)).all (fP t.tables)=true:=by rw [show t.tables.length - 1=k - 1 by omega,hs]
  refine ⟨List.length_map _,?_,trivial⟩
  ·first | (rw [eB,dM h14 g18];rfl) | (rw [eB,hz];simp [*];done) | (rw [eB,hz];simp;done)
theorem aAn: ∀{x y z:List UInt8},Op.bytesLess x y=true→Op.bytesLess y z=true→Op.bytesLess x z=true
 | [],[],_,h,_=>by simp [Op.bytesLess] at h
 | [],_::_,[],_,h=>by simp [Op.bytesLess] at h
 | [],_::_,_::_,_,_=>by simp [Op.bytesLess]
 | _::_,[],_,h,_=>by simp [Op.bytesLess] at h
 | _::_,_::_,[],_,h=>by simp [Op.bytesLess] at h
 | a::x,b::y,c::z,h1,h2=>by
   simp only [Op.bytesLess,Bool.or_eq_true,Bool.and_eq_true,decide_eq_true_eq,beq_iff_eq] at*
   rcases h1 with h1 | ⟨rfl,h1⟩<;>rcases h2 with h2 | ⟨rfl,h2⟩
   ·exact .inl (UInt8.lt_trans h1 h2)
   ·exact .inl h1
   ·exact .inl h2
   ·exact .inr ⟨rfl,aAn h1 h2⟩
theorem aGf: ∀(x:List UInt8),Op.bytesLess x x=false
 | []=>rfl
 | a::x=>by simp [Op.bytesLess,aGf x,UInt8.lt_irrefl]
theorem aDg: ∀{x y:List UInt8},Op.bytesLess x y=false→ ¬x=y→Op.bytesLess y x=true
 | [],[],_,h=>absurd rfl h
 | [],_::_,h,_=>by simp [Op.bytesLess] at h
 | _::_,[],_,_=>by simp [Op.bytesLess]
 | a::x,b::y,h,hne=>by
   simp only [Op.bytesLess,Bool.or_eq_false_iff,decide_eq_false_iff_not,Bool.and_eq_false_iff] at h
   simp only [Op.bytesLess,Bool.or_eq_true,Bool.and_eq_true,decide_eq_true_eq,beq_iff_eq]
   by_cases e:a=b
   ·subst e
    refine .inr ⟨rfl,aDg ?_ fun q=>hne (by rw [q])⟩
    rcases h.2 with q | q
    ·simp at q
    ·exact q
   ·refine .inl ?_
    have h1:=h.1
    rw [UInt8.not_lt] at h1
    exact UInt8.lt_of_le_of_ne h1 fun q=>e q.symm
abbrev ltN (a b:aN):Prop:=Op.bytesLess a.name.toList b.name.toList=true
theorem aKo {a b c:aN} (h1:ltN a b) (h2:ltN b c):ltN a c:=aAn h1 h2
theorem aHl: ∀{l:List aN},(∀i,i+1<l.length→ltN (l.getD i fJ) (l.getD (i+1) fJ))→l.Pairwise ltN
 | [],_=>List.Pairwise.nil
 | [a],_=>List.pairwise_singleton _ _
 | a::b::l,h=>by
   have ih:=aHl (l:=b::l) fun i hi=>by
    have:=h (i+1) (by simpa using hi)
    simpa using this
   have h0:ltN a b:=by
    have:=h 0 (by simp)
    simpa using this
   refine List.pairwise_cons.2 ⟨fun y hy=>?_,ih⟩
   rcases List.mem_cons.1 hy with rfl | q
   ·exact h0
   ·exact aKo h0 ((List.pairwise_cons.1 ih).1 y q)
theorem aHm {d:aP}:eB d=true↔d.tables.all aS=true∧d.tables.Pairwise ltN∧d.tables.length≤6:=by
 simp only [eB,Bool.and_eq_true,decide_eq_true_eq]
 constructor
 ·rintro ⟨h1,h2,h3⟩
  refine ⟨h1,aHl fun i hi=>?_,by omega⟩
  have:=List.all_eq_true.1 h2 i (List.mem_range.2 (by omega))
  simpa [fP] using this
 ·rintro ⟨h1,h2,h3⟩
  refine ⟨h1,List.all_eq_true.2 fun i hi=>?_,by omega⟩
  have hi:=List.mem_range.1 hi
  have:=List.pairwise_iff_getElem.1 h2 i (i+1) (by omega) (by omega) (by omega)
  simpa [fP,List.getD_eq_getElem?_getD,show i<d.tables.length by omega,show i+1<d.tables.length by omega] using this
def rT (t:aN):Bool→List aN→List aN
 | p,[]=>if p=true then [] else [t]
 | p,x::xs=>(if p=false∧Op.bytesLess x.name.toList t.name.toList=false then [t] else [])++(if x.name.toList=t.name.toList then [] else [x])++rT t (p || !Op.bytesLess x.name.toList t.name.toList) xs
def fZ (t:aN) (l:List aN):List aN:=rT t false l
theorem aCs {t y:aN}: ∀{l:List aN} {p:Bool},y∈rT t p l→y∈l∨(p=false∧y=t)
 | [],p,h=>by
   rw [rT] at h
   split at h
   ·simp at h
   ·rename_i hp;exact .inr ⟨by simpa using hp,by simpa using h⟩
 | x::xs,p,h=>by
   rw [rT,List.mem_append,List.mem_append] at h
   rcases h with (h | h) | h
   ·split at h
    ·rename_i hp;exact .inr ⟨hp.1,by simpa using h⟩
    ·simp at h
   ·split at h
    ·simp at h
    ·left;simp at h;simp [h]
   ·rcases aCs h with q | ⟨q1,q2⟩
    ·left;simp [q]
    ·exact .inr ⟨by simp at q1;exact q1.1,q2⟩
theorem aDh {t:aN}: ∀{l:List aN} {p:Bool},l.Pairwise ltN→(p=true→ ∀x∈l,ltN t x∨x.name.toList=t.name.toList)→(rT t p l).Pairwise ltN
 | [],p,_,_=>by rw [rT];split<;>simp
 | x::xs,p,hl,hp=>by
   have hx:=List.pairwise_cons.1 hl
   rw [rT]
   cases hb:Op.bytesLess x.name.toList t.name.toList with
   | true=>
     have hp' :p=false:=by
      cases p with
      | false=>rfl
      | true=>
        rcases hp rfl x (by simp) with q | q
        ·have:=aAn hb q;rw [aGf] at this;cases this
        ·rw [q,aGf] at hb;cases hb
     subst hp'
     have hne: ¬x.name.toList=t.name.toList:=fun q=>by rw [q,aGf] at hb;cases hb
     rw [if_neg (by simp),if_neg hne]
     simp only [List.nil_append,List.singleton_append,Bool.not_true,Bool.or_false]
     refine List.pairwise_cons.2 ⟨fun y hy=>?_,aDh hx.2 (fun q=>by cases q)⟩
     rcases aCs hy with q | ⟨_,rfl⟩
     ·exact hx.1 y q
     ·exact hb
   | false=>
     have hxs: ∀y∈xs,ltN t y:=fun y hy=>by
      by_cases e:x.name.toList=t.name.toList
      ·have:=hx.1 y hy
       unfold ltN at*
       rwa [e] at this
      ·exact aAn (aDg hb e) (hx.1 y hy)
     have ih:=aDh (t:=t) (p:=true) hx.2 (fun _ y hy=> .inl (hxs y hy))
     have hmem: ∀y∈rT t true xs,y∈xs:=fun y hy=>by
      rcases aCs hy with q | ⟨q,_⟩
      ·exact q
      ·cases q
     have hrest:((if x.name.toList=t.name.toList then [] else [x])++rT t true xs).Pairwise ltN∧ ∀y∈(if x.name.toList=t.name.toList then [] else [x])++rT t true xs,ltN t y:=by
      split
      ·exact ⟨by simpa using ih,fun y hy=>hxs y (hmem y (by simpa using hy))⟩
      ·rename_i e
       refine ⟨List.pairwise_cons.2 ⟨fun y hy=>hx.1 y (hmem y hy),ih⟩,fun y hy=>?_⟩
       rcases List.mem_cons.1 hy with rfl | q
       ·exact aDg hb e
       ·exact hxs y (hmem y q)
     simp only [Bool.not_false,Bool.or_true,and_true]
     cases p with
     | true=>simpa using hrest.1
     | false=>
       simp only [if_true,List.singleton_append,List.cons_append]
       exact List.pairwise_cons.2 ⟨hrest.2,hrest.1⟩
def eY (d:aP) (t:aN):aP × Bool:=if (eB d&&(aS t&&decide ((fZ t d.tables).length≤6)))=true then (⟨fZ t d.tables⟩,true) else (d,false)
theorem vW {d:aP} {t:aN} (h1:eB d=true) (h2:aS t=true):eB ⟨fZ t d.tables⟩=decide ((fZ t d.tables).length≤6):=by
 obtain ⟨q1,q2,q3⟩:=aHm.1 h1
 have hp:=aDh (t:=t) (p:=false) q2 (fun q=>by cases q)
 have ha:(fZ t d.tables).all aS=true:=List.all_eq_true.2 fun y hy=>by
  rcases aCs hy with q | ⟨_,rfl⟩
  ·exact List.all_eq_true.1 q1 y q
  ·exact h2
 apply Bool.eq_iff_iff.2
 rw [aHm,decide_eq_true_eq]
 exact ⟨fun q=>q.2.2,fun q=>⟨ha,hp,q⟩⟩
def aMd (n:Int) (cols:List Int):Bool:=cols.all fun c=>gG c 0 (n - 1)
def vX (r:List Int) (c:Int):Int:=r.getD c.toNat 0
def fM (r cols:List Int):List Int × Bool:=if aMd r.length cols=true then (cols.map (vX r),true) else ([],false)
theorem gF {r cols:List Int} (h:cols.all (fun c=>gG c 0 ((r.length:Int) - 1))=true):fM r cols=(cols.map (vX r),true):=by rw [fM,if_pos (show aMd _ _=true from h)]
theorem rF {r cols:List Int} (h:cols.all (fun c=>gG c 0 ((r.length:Int) - 1))=false):fM r cols=([],false):=by rw [fM,if_neg (by rw [show aMd _ _=false from h];decide)]
theorem aHn {r:List Int} {c x:Int} (h:r[c.toNat]? =some x):vX r c=x:=cM h
theorem aDi (r cols:List Int):(fM r cols).1.length≤cols.length:=by
 unfold fM
 split<;>simp
def iH (b:Int) (cols:List Int) (i:Nat):Bool:=gG (cols.getD i 0) 0 b&&(decide (i=0) || decide (cols.getD (i - 1) 0<cols.getD i 0))
def dN (b:Int) (cols:List Int):Bool:=(List.range cols.length).all (iH b cols)
abbrev qF (r:List Int) (cols:List Int):AV × List (Nat × Rs):=(.tup [.own 0,vB ((fM r cols).2)],[(0,.arr 3 1 true (((fM r cols).1).map intD))])
abbrev tI (r:List Int) (cols:List Int):Prop:=dJ Tryz.prog 199 [.one (.sl 3 1 (r.map intD)),.one (.sl 3 1 (cols.map intD))] (qF r cols).1 (qF r cols).2
theorem aDj (r cols:List Int) (hl:cols.length≤1048576):tI r cols:=by
 refine aZ bR aT Tryz.func199 (by kernel_rfl) (.len cols.length<| .loop (Nat × (List Int)) (Q2 Nat (List Int)) [6,8,9,12,13,14,15,16,17,18,19,20,21,22,23,24,25,26,27,28,29] [900,2700,2800] (fun yy0=>[(12,vI (yy0.1:Int)),(6,.own 900)]) (fun yy0=>[(900,some (.arr 3 1 true (yy0.2.map intD)))]) (fun yy0=>yy0.1≤cols.length∧yy0.2=(cols.take yy0.1).map (vX r)∧(cols.take yy0.1).all (fun c=>gG c 0 ((r.length:Int) - 1))=true) (fun yy0=>cols.length - yy0.1) (fun yy0=> .br (.elem _ intD cols (fun e14=> .len r.length<| .call (vB (gG e14 (0:Int) (((r.length:Nat):Int) - (1:Int)))) []<| .br (.fin []) (.elem _ intD r (fun e25=> .app Int intD yy0.2 ([e25]:List Int)<| .back [(900,2800)])))) (.fin [(0,900)]))) (p:=(r.map intD).length≤9223372036854775807→(cols.map intD).length≤9223372036854775807→Lm intD cols∧((∃(k:Nat) (out:List Int),(0:Int)=(k:Int)∧[]=out.map intD∧k≤cols.length∧out=(cols.take k).map (vX r)∧(cols.take k).all (fun c=>gG c 0 ((r.length:Int) - 1))=true)∧ ∀(k:Nat) (out:List Int),(k≤cols.length∧out=(cols.take k).map (vX r)∧(cols.take k).all (fun c=>gG c 0 ((r.length:Int) - 1))=true)→((decide ((k:Int)<((cols.length:Nat):Int)))=true→0≤(k:Int)∧Em intD cols k fun e14=>Lm intD r∧(dO (((r.length:Nat):Int) - (1:Int))∧(jV e14 (0:Int) (((r.length:Nat):Int) - (1:Int))∧(((!(gG e14 (0:Int) (((r.length:Nat):Int) - (1:Int))))=true→(false)=((fM r cols).2)∧[]=((fM r cols).1).map intD∧True)∧((!(gG e14 (0:Int) (((r.length:Nat):Int) - (1:Int))))=false→0≤e14∧Em intD r ((e14).toNat) fun e25=>out.map intD=out.map intD∧[[.int .i64 e25]]=([e25]:List Int).map intD∧(∀x,fG (intD x)=true)∧(out.length+([e25]:List Int).length)*8≤140737488355328∧dO ((k:Int)+(1:Int))∧ ∃(k' :Nat) (out' :List Int),((k:Int)+(1:Int))=(k' :Int)∧(out++[e25]).map intD=out'.map intD∧(k' ≤cols.length∧out' =(cols.take k').map (vX r)∧(cols.take k').all (fun c=>gG c 0 ((r.length:Int) - 1))=true)∧cols.length - k' <cols.length - k)))))∧((decide ((k:Int)<((cols.length:Nat):Int)))=false→(true)=((fM r cols).2)∧out.map intD=((fM r cols).1).map intD∧True))) (by kernel_rfl) ?_
 intro n0 n1
 simp only [List.length_map] at n0 n1
 refine ⟨List.length_map _,⟨0,([]:List Int),rfl,rfl,Nat.zero_le _,rfl,rfl⟩,fun k out ⟨hk,ho,ha⟩=>?_⟩
 refine ⟨fun c0=>?_,fun c0=>?_⟩
 ·replace c0:=yq c0
  refine ⟨by omega,rfl,by omega,fun e14 h14=>?_⟩
  refine ⟨List.length_map _,⟨by omega,by omega⟩,pE _ _ _,fun c1=>?_,fun c1=>?_⟩
  ·replace c1:=nt c1
   refine ⟨?_,?_,trivial⟩
   ·first | (rw [rF (dM h14 c1)]<;>rfl) | (rw [gF (cZ (by omega) ha),ho,List.take_of_length_le (by omega)]<;>rfl) | (rw [gF (cZ (by omega) ha)]<;>rfl)
   ·first | (rw [rF (dM h14 c1)]<;>rfl) | (rw [gF (cZ (by omega) ha),ho,List.take_of_length_le (by omega)]<;>rfl) | (rw [gF (cZ (by omega) ha)]<;>rfl)
  ·replace c1:=nf c1
   have hb:=kW c1
   refine ⟨by omega,rfl,by omega,fun e25 h25=>?_⟩
   refine ⟨rfl,rfl,fun _=>rfl,by simp [ho];omega,?_⟩
   refine ⟨⟨by omega,by omega⟩,?_⟩
   exact ⟨k+1,_,rfl,rfl,⟨by omega,by rw [ho,cU h14,List.map_append,List.map_cons,List.map_nil,aHn h25],eZ h14 ha c1⟩,by omega⟩
 ·replace c0:=nq c0
  refine ⟨?_,?_,trivial⟩
  ·first | (rw [rF (dM h14 c1)]<;>rfl) | (rw [gF (cZ (by omega) ha),ho,List.take_of_length_le (by omega)]<;>rfl) | (rw [gF (cZ (by omega) ha)]<;>rfl)
  ·first | (rw [rF (dM h14 c1)]<;>rfl) | (rw [gF (cZ (by omega) ha),ho,List.take_of_length_le (by omega)]<;>rfl) | (rw [gF (cZ (by omega) ha)]<;>rfl)
abbrev nC (r:List Int) (cols:List Int):AV × List (Nat × Rs):=(.tup [.own 0,vB ((fM r cols).2)],[(0,.arr 3 1 true (((fM r cols).1).map intD))])
abbrev qG (r:List Int) (cols:List Int):Prop:=dJ Tryz.prog 259 [.one (.sl 3 1 (r.map intD)),.one (.sl 3 1 (cols.map intD))] (nC r cols).1 (nC r cols).2
theorem aAo (r cols:List Int) (hl:cols.length≤1048576):qG r cols:=by
 refine aZ bR aT Tryz.func259 (by kernel_rfl) (.loop (Nat × (List Int)) (Q2 Nat (List Int)) [6,7,8,9,10,11,12,13,14,15,16,17,18,19,20,21,22,23,25,26,27,28,29,30,31,32,33,34] [800,3300,3400] (fun yy0=>[(7,vI (yy0.1:Int)),(6,.own 800)]) (fun yy0=>[(800,some (.arr 3 1 true (yy0.2.map intD)))]) (fun yy0=>yy0.1≤cols.length∧yy0.2=(cols.take yy0.1).map (vX r)∧(cols.take yy0.1).all (fun c=>gG c 0 ((r.length:Int) - 1))=true) (fun yy0=>cols.length - yy0.1) (fun yy0=> .len cols.length<| .br (.elem _ intD cols (fun e17=> .len r.length<| .call (vB (gG e17 (0:Int) (((r.length:Nat):Int) - (1:Int)))) []<| .br (.fin [(0,2400)]) (.elem _ intD cols (fun e29=> .elem _ intD r (fun e31=> .app Int intD yy0.2 ([e31]:List Int)<| .back [(800,3400)]))))) (.fin [(0,800)]))) (p:=(r.map intD).length≤9223372036854775807→(cols.map intD).length≤9223372036854775807→(∃(k:Nat) (out:List Int),(0:Int)=(k:Int)∧[]=out.map intD∧k≤cols.length∧out=(cols.take k).map (vX r)∧(cols.take k).all (fun c=>gG c 0 ((r.length:Int) - 1))=true)∧ ∀(k:Nat) (out:List Int),(k≤cols.length∧out=(cols.take k).map (vX r)∧(cols.take k).all (fun c=>gG c 0 ((r.length:Int) - 1))=true)→Lm intD cols∧(((decide ((k:Int)<((cols.length:Nat):Int)))=true→0≤(k:Int)∧Em intD cols k fun e17=>Lm intD r∧(dO (((r.length:Nat):Int) - (1:Int))∧(jW e17 (0:Int) (((r.length:Nat):Int) - (1:Int))∧(((!(gG e17 (0:Int) (((r.length:Nat):Int) - (1:Int))))=true→(false)=((fM r cols).2)∧[]=((fM r cols).1).map intD∧True)∧((!(gG e17 (0:Int) (((r.length:Nat):Int) - (1:Int))))=false→0≤(k:Int)∧Em intD cols k fun e29=>0≤e29∧Em intD r ((e29).toNat) fun e31=>out.map intD=out.map intD∧[[.int .i64 e31]]=([e31]:List Int).map intD∧(∀x,fG (intD x)=true)∧(out.length+([e31]:List Int).length)*8≤140737488355328∧dO ((k:Int)+(1:Int))∧ ∃(k' :Nat) (out' :List Int),((k:Int)+(1:Int))=(k' :Int)∧(out++[e31]).map intD=out'.map intD∧(k' ≤cols.length∧out' =(cols.take k').map (vX r)∧(cols.take k').all (fun c=>gG c 0 ((r.length:Int) - 1))=true)∧cols.length - k' <cols.length - k)))))∧((decide ((k:Int)<((cols.length:Nat):Int)))=false→(true)=((fM r cols).2)∧out.map intD=((fM r cols).1).map intD∧True))) (by kernel_rfl) ?_
 intro n0 n1
 simp only [List.length_map] at n0 n1
 refine ⟨⟨0,([]:List Int),rfl,rfl,Nat.zero_le _,rfl,rfl⟩,fun k out ⟨hk,ho,ha⟩=>?_⟩
 refine ⟨List.length_map _,fun c0=>?_,fun c0=>?_⟩
 ·replace c0:=yq c0
  refine ⟨by omega,rfl,by omega,fun e17 h17=>?_⟩
  refine ⟨List.length_map _,⟨by omega,by omega⟩,pF _ _ _,fun c1=>?_,fun c1=>?_⟩
  ·replace c1:=nt c1
   refine ⟨?_,?_,trivial⟩
   ·first | (rw [rF (dM h17 c1)]<;>rfl) | (rw [gF (cZ (by omega) ha),ho,List.take_of_length_le (by omega)]<;>rfl) | (rw [gF (cZ (by omega) ha)]<;>rfl)
   ·first | (rw [rF (dM h17 c1)]<;>rfl) | (rw [gF (cZ (by omega) ha),ho,List.take_of_length_le (by omega)]<;>rfl) | (rw [gF (cZ (by omega) ha)]<;>rfl)
  ·replace c1:=nf c1
   have hb:=kW c1
   refine ⟨by omega,rfl,by omega,fun e29 h29=>?_⟩
   obtain rfl:=(aV h17 h29).symm
   refine ⟨by omega,rfl,by omega,fun e31 h31=>?_⟩
   refine ⟨rfl,rfl,fun _=>rfl,by simp [ho];omega,?_⟩
   refine ⟨⟨by omega,by omega⟩,?_⟩
   exact ⟨k+1,_,rfl,rfl,⟨by omega,by rw [ho,cU h17,List.map_append,List.map_cons,List.map_nil,aHn h31],eZ h17 ha c1⟩,by omega⟩
 ·replace c0:=nq c0
  refine ⟨?_,?_,trivial⟩
  ·first | (rw [rF (dM h17 c1)]<;>rfl) | (rw [gF (cZ (by omega) ha),ho,List.take_of_length_le (by omega)]<;>rfl) | (rw [gF (cZ (by omega) ha)]<;>rfl)
  ·first | (rw [rF (dM h17 c1)]<;>rfl) | (rw [gF (cZ (by omega) ha),ho,List.take_of_length_le (by omega)]<;>rfl) | (rw [gF (cZ (by omega) ha)]<;>rfl)
abbrev vY (cols:List Int) (a:Int):Prop:=dJ Tryz.prog 272 [.one (.sl 3 1 (cols.map intD)),.one (.int .i64 a)] (vB (dN (a - 1) cols)) []
theorem aFk (cols:List Int) (a:Int) (ha:1≤a∧a≤3):vY cols a:=by
 refine aZ bR aT Tryz.func272 (by kernel_rfl) (.len cols.length<| .loop Nat (Q1 Nat) [5,6,9,10,11,12,13,14,15,16,17,18,19,20,21,22,23,24,25,26,27,28,29,30,31,32] [] (fun k=>[(9,vI (k:Int))]) (fun k=>[]) (fun k=>k≤cols.length∧(List.range k).all (iH (a - 1) cols)=true) (fun k=>cols.length - k) (fun k=> .br (.elem _ intD cols (fun e12=> .call (vB (gG e12 (0:Int) (a - (1:Int)))) []<| .br (.fin []) (.lit<| .lit<| .br (.elem _ intD cols (fun e26=> .lit<| .lit<| .lit<| .lit<| .lit<| .lit<| .br (.fin []) (.back []))) (.back [])))) (.fin []))) (p:=(cols.map intD).length≤9223372036854775807→Lm intD cols∧((∃(k:Nat),(0:Int)=(k:Int)∧k≤cols.length∧(List.range k).all (iH (a - 1) cols)=true)∧ ∀(k:Nat),(k≤cols.length∧(List.range k).all (iH (a - 1) cols)=true)→((decide ((k:Int)<((cols.length:Nat):Int)))=true→0≤(k:Int)∧Em intD cols k fun e12=>dO (a - (1:Int))∧(jV e12 (0:Int) (a - (1:Int))∧(((!(gG e12 (0:Int) (a - (1:Int))))=true→(false)=(dN (a - 1) cols)∧True)∧((!(gG e12 (0:Int) (a - (1:Int))))=false→((decide ((0:Int)<(k:Int)))=true→dO ((k:Int) - (1:Int))∧(0≤((k:Int) - (1:Int))∧Em intD cols (((k:Int) - (1:Int)).toNat) fun e26=>((decide (e12≤e26))=true→(false)=(dN (a - 1) cols)∧True)∧((decide (e12≤e26))=false→dO ((k:Int)+(1:Int))∧ ∃(k' :Nat),((k:Int)+(1:Int))=(k' :Int)∧(k' ≤cols.length∧(List.range k').all (iH (a - 1) cols)=true)∧cols.length - k' <cols.length - k)))∧((decide ((0:Int)<(k:Int)))=false→dO ((k:Int)+(1:Int))∧ ∃(k' :Nat),((k:Int)+(1:Int))=(k' :Int)∧(k' ≤cols.length∧(List.range k').all (iH (a - 1) cols)=true)∧cols.length - k' <cols.length - k)))))∧((decide ((k:Int)<((cols.length:Nat):Int)))=false→(true)=(dN (a - 1) cols)∧True))) (by kernel_rfl) ?_
 intro n0
 simp only [List.length_map] at n0
 refine ⟨List.length_map _,⟨0,rfl,Nat.zero_le _,rfl⟩,fun k ⟨hk,hv⟩=>?_⟩
 refine ⟨fun c0=>?_,fun c0=>?_⟩
 ·replace c0:=yq c0
  refine ⟨by omega,rfl,by omega,fun e12 h12=>?_⟩
  refine ⟨⟨by omega,by omega⟩,pE _ _ _,fun g19=>?_,fun g19=>?_⟩
  ·replace g19:=nt g19
   have hp:iH (a - 1) cols k=false:=by rw [iH,cM h12,g19];rfl
   refine ⟨?_,trivial⟩
   ·first | (rw [dN,gW (by omega) hp];done) | (rw [dN,show cols.length=k by omega,hv];done)
  ·replace g19:=nf g19
   refine ⟨fun g22=>?_,fun g22=>?_⟩
   ·replace g22:=yq g22
    refine ⟨⟨by omega,by omega⟩,by omega,rfl,by omega,fun e26 h26=>?_⟩
    have i26:cols[k - 1]? =some e26:=by rw [←h26];congr 1;omega
    refine ⟨fun c1=>?_,fun c1=>?_⟩
    ·replace c1:=yq c1
     have hp:iH (a - 1) cols k=false:=by rw [iH,cM h12,cM i26,show decide (e26<e12)=false by simp;omega,show decide (k=0)=false by simp;omega];simp
     refine ⟨?_,trivial⟩
     ·first | (rw [dN,gW (by omega) hp];done) | (rw [dN,show cols.length=k by omega,hv];done)
    ·replace c1:=nq c1
     have hp:iH (a - 1) cols k=true:=by rw [iH,cM h12,g19,cM i26,show decide (e26<e12)=true by simp;omega];simp
     refine ⟨⟨by omega,by omega⟩,?_⟩
     exact ⟨k+1,rfl,⟨by omega,kE hv hp⟩,by omega⟩
   ·replace g22:=nq g22
    have hp:iH (a - 1) cols k=true:=by rw [iH,cM h12,g19,show decide (k=0)=true by simp;omega];rfl
    refine ⟨⟨by omega,by omega⟩,?_⟩
    exact ⟨k+1,rfl,⟨by omega,kE hv hp⟩,by omega⟩
 ·replace c0:=nq c0
  refine ⟨?_,trivial⟩
  ·first | (rw [dN,gW (by omega) hp];done) | (rw [dN,show cols.length=k by omega,hv];done)
theorem cD {t:aN} (h:aS t=true):1≤t.arity∧t.arity≤3∧t.rows.length≤8:=by
 simp only [aS,Bool.and_eq_true,decide_eq_true_eq] at h
 have:=kW h.2.2.1
 omega
theorem aDk {t:aN} (h:aS t=true):IntKind.i64.wrap (t.arity - 1)=t.arity - 1:=by
 have:=cD h
 exact IntWalk.i64_in _ ⟨by omega,by omega⟩
theorem aJE {t:aN} {cols:List Int} (h:dN (IntKind.i64.wrap (t.arity - 1)) cols=false):(aS t&&dN (t.arity - 1) cols)=false:=by
 cases e:aS t with
 | false=>rfl
 | true=>rw [aDk e] at h;rw [h];rfl
theorem aGg {t:aN} {cols:List Int} (h:dN (IntKind.i64.wrap (t.arity - 1)) cols=true):(aS t&&dN (t.arity - 1) cols)=aS t:=by
 cases e:aS t with
 | false=>rfl
 | true=>rw [aDk e] at h;rw [h];rfl
abbrev vZ (t:aN) (cols:List Int):Prop:=dJ Tryz.prog 258 [.agg [.str t.name,.int .i64 t.arity,.sl 32 1 (t.rows.map aF)],.one (.sl 3 1 (cols.map intD))] (vB (aS t&&dN (t.arity - 1) cols)) []
theorem aFl (t:aN) (cols:List Int):vZ t cols:=by
 refine aZ bR aT Tryz.func258 (by kernel_rfl) (.loop Nat (Q1 Nat) [5,6,7,8,9,10,11,12,13,14,15,16,17,18,19,20,21,22,23,24,25,26,27,28,29,30,31,32,33,34,35,36] [] (fun k=>[(5,vI (k:Int))]) (fun k=>[]) (fun k=>k≤cols.length∧(List.range k).all (iH (IntKind.i64.wrap (t.arity - (1:Int))) cols)=true) (fun k=>cols.length - k) (fun k=> .len cols.length<| .br (.elem _ intD cols (fun e14=> .raw<| .call (vB (gG e14 (0:Int) (IntKind.i64.wrap (t.arity - (1:Int))))) []<| .br (.fin []) (.lit<| .lit<| .br (.elem _ intD cols (fun e28=> .elem _ intD cols (fun e32=> .lit<| .lit<| .lit<| .lit<| .lit<| .br (.fin []) (.back [])))) (.back [])))) (.call (vB (aS t)) []<| .fin []))) (p:=(t.rows.map aF).length≤9223372036854775807→(cols.map intD).length≤9223372036854775807→(∃(k:Nat),(0:Int)=(k:Int)∧k≤cols.length∧(List.range k).all (iH (IntKind.i64.wrap (t.arity - (1:Int))) cols)=true)∧ ∀(k:Nat),(k≤cols.length∧(List.range k).all (iH (IntKind.i64.wrap (t.arity - (1:Int))) cols)=true)→Lm intD cols∧(((decide ((k:Int)<((cols.length:Nat):Int)))=true→0≤(k:Int)∧Em intD cols k fun e14=>jW e14 (0:Int) (IntKind.i64.wrap (t.arity - (1:Int)))∧(((!(gG e14 (0:Int) (IntKind.i64.wrap (t.arity - (1:Int)))))=true→(false)=(aS t&&dN (t.arity - 1) cols)∧True)∧((!(gG e14 (0:Int) (IntKind.i64.wrap (t.arity - (1:Int)))))=false→((decide ((0:Int)<(k:Int)))=true→dO ((k:Int) - (1:Int))∧(0≤((k:Int) - (1:Int))∧Em intD cols (((k:Int) - (1:Int)).toNat) fun e28=>0≤(k:Int)∧Em intD cols k fun e32=>((decide (e32≤e28))=true→(false)=(aS t&&dN (t.arity - 1) cols)∧True)∧((decide (e32≤e28))=false→dO ((k:Int)+(1:Int))∧ ∃(k' :Nat),((k:Int)+(1:Int))=(k' :Int)∧(k' ≤cols.length∧(List.range k').all (iH (IntKind.i64.wrap (t.arity - (1:Int))) cols)=true)∧cols.length - k' <cols.length - k)))∧((decide ((0:Int)<(k:Int)))=false→dO ((k:Int)+(1:Int))∧ ∃(k' :Nat),((k:Int)+(1:Int))=(k' :Int)∧(k' ≤cols.length∧(List.range k').all (iH (IntKind.i64.wrap (t.arity - (1:Int))) cols)=true)∧cols.length - k' <cols.length - k))))∧((decide ((k:Int)<((cols.length:Nat):Int)))=false→lO t∧(aS t)=(aS t&&dN (t.arity - 1) cols)∧True))) (by kernel_rfl) ?_
 intro n0 n1
 simp only [List.length_map] at n0 n1
 refine ⟨⟨0,rfl,Nat.zero_le _,rfl⟩,fun k ⟨hk,hv⟩=>?_⟩
 refine ⟨List.length_map _,fun c0=>?_,fun c0=>?_⟩
 ·replace c0:=yq c0
  refine ⟨by omega,rfl,by omega,fun e14 h14=>?_⟩
  refine ⟨pF _ _ _,fun g21=>?_,fun g21=>?_⟩
  ·replace g21:=nt g21
   have hp:iH (IntKind.i64.wrap (t.arity - (1:Int))) cols k=false:=by rw [iH,cM h14,g21];rfl
   refine ⟨?_,trivial⟩
   ·first | (rw [aJE (by rw [dN,gW (by omega) hp])];done) | (rw [aGg (by rw [dN,show cols.length=k by omega,hv])];done)
  ·replace g21:=nf g21
   refine ⟨fun g24=>?_,fun g24=>?_⟩
   ·replace g24:=yq g24
    refine ⟨⟨by omega,by omega⟩,by omega,rfl,by omega,fun e28 h28=>?_⟩
    have i28:cols[k - 1]? =some e28:=by rw [←h28];congr 1;omega
    refine ⟨by omega,rfl,by omega,fun e32 h32=>?_⟩
    obtain rfl:=(aV h14 h32).symm
    refine ⟨fun c1=>?_,fun c1=>?_⟩
    ·replace c1:=yq c1
     have hp:iH (IntKind.i64.wrap (t.arity - (1:Int))) cols k=false:=by rw [iH,cM h14,cM i28,show decide (e28<e14)=false by simp;omega,show decide (k=0)=false by simp;omega];simp
     refine ⟨?_,trivial⟩
     ·first | (rw [aJE (by rw [dN,gW (by omega) hp])];done) | (rw [aGg (by rw [dN,show cols.length=k by omega,hv])];done)
    ·replace c1:=nq c1
     have hp:iH (IntKind.i64.wrap (t.arity - (1:Int))) cols k=true:=by rw [iH,cM h14,g21,cM i28,show decide (e28<e14)=true by simp;omega];simp
     refine ⟨⟨by omega,by omega⟩,?_⟩
     exact ⟨k+1,rfl,⟨by omega,kE hv hp⟩,by omega⟩
   ·replace g24:=nq g24
    have hp:iH (IntKind.i64.wrap (t.arity - (1:Int))) cols k=true:=by rw [iH,cM h14,g21,show decide (k=0)=true by simp;omega];rfl
    refine ⟨⟨by omega,by omega⟩,?_⟩
    exact ⟨k+1,rfl,⟨by omega,kE hv hp⟩,by omega⟩
 ·replace c0:=nq c0
  refine ⟨sI t,?_,trivial⟩
  ·first | (rw [aJE (by rw [dN,gW (by omega) hp])];done) | (rw [aGg (by rw [dN,show cols.length=k by omega,hv])];done)
abbrev aFm (l:List Int):AV × List (Nat × Rs):=(.own 0,[(0,.arr 3 1 true (l.map intD))])
abbrev aHo (l:List Int):Prop:=dJ Tryz.prog 185 [.one (.sl 3 1 (l.map intD))] (aFm l).1 (aFm l).2
theorem cpI (l:List Int) (hl:l.length≤1048576):aHo l:=by
 refine aZ bR aT Tryz.func185 (by kernel_rfl) (.app Int intD ([]:List Int) l<| .fin [(0,500)]) (p:=(l.map intD).length≤9223372036854775807→[]=([]:List Int).map intD∧l.map intD=l.map intD∧(∀x,fG (intD x)=true)∧(([]:List Int).length+l.length)*8≤140737488355328∧(([]:List Int)++l).map intD=l.map intD∧True) (by kernel_rfl) ?_
 intro n0
 simp only [List.length_map] at n0
 refine ⟨rfl,rfl,fun _=>rfl,by simp;omega,?_⟩
 refine ⟨?_,trivial⟩
 ·simp
abbrev aHp (l:List (List Int)):AV × List (Nat × Rs):=(.own 0,[(0,.arr 32 1 true (l.map aF))])
abbrev aJy (l:List (List Int)):Prop:=dJ Tryz.prog 247 [.one (.sl 32 1 (l.map aF))] (aHp l).1 (aHp l).2
theorem cpR (l:List (List Int)) (hc:cP l≤1048576):aJy l:=by
 refine aZ bR aT Tryz.func247 (by kernel_rfl) (.len l.length<| .loop (Nat × (List (List Int))) (Q2 Nat (List (List Int))) [3,5,6,9,10,11,12,13,14,15,16,17,18] [600,1500,1600,1700] (fun yy0=>[(3,.own 600),(9,vI (yy0.1:Int))]) (fun yy0=>[(600,some (.arr 32 1 true (yy0.2.map aF)))]) (fun yy0=>yy0.1≤l.length∧yy0.2=l.take yy0.1) (fun yy0=>l.length - yy0.1) (fun yy0=> .br (.elem _ aF l (fun e11=>bG (aFm e11)<| .appx (List Int) aF yy0.2 e11<| .back [(600,1700)])) (.fin [(0,600)]))) (p:=(l.map aF).length≤9223372036854775807→Lm aF l∧((∃(k:Nat) (out:List (List Int)),(0:Int)=(k:Int)∧[]=out.map aF∧k≤l.length∧out=l.take k)∧ ∀(k:Nat) (out:List (List Int)),(k≤l.length∧out=l.take k)→((decide ((k:Int)<((l.length:Nat):Int)))=true→0≤(k:Int)∧Em aF l k fun e11=>aHo e11∧out.map aF=out.map aF∧e11.map intD=e11.map intD∧(out.length+1)*24≤140737488355328∧dO ((k:Int)+(1:Int))∧ ∃(k' :Nat) (out' :List (List Int)),((k:Int)+(1:Int))=(k' :Int)∧(out++[e11]).map aF=out'.map aF∧(k' ≤l.length∧out' =l.take k')∧l.length - k' <l.length - k)∧((decide ((k:Int)<((l.length:Nat):Int)))=false→out.map aF=l.map aF∧True))) (by kernel_rfl) ?_
 intro n0
 simp only [List.length_map] at n0
 have hlen:=fO l
 refine ⟨List.length_map _,⟨0,([]:List (List Int)),rfl,rfl,Nat.zero_le _,rfl⟩,fun k out ⟨hk,ho⟩=>?_⟩
 refine ⟨fun c0=>?_,fun c0=>?_⟩
 ·replace c0:=yq c0
  refine ⟨by omega,rfl,by omega,fun e11 h11=>?_⟩
  have h5:e11.length≤1048576:=by have:=pJ h11;have:bZ e11=e11.length:=rfl;omega
  refine ⟨cpI _ (by omega),rfl,rfl,by simp [ho];have:=fO l;omega,⟨by omega,by omega⟩,?_⟩
  exact ⟨k+1,out++[e11],rfl,rfl,⟨by omega,by rw [ho,cU h11]⟩,by omega⟩
 ·replace c0:=nq c0
  refine ⟨?_,trivial⟩
  ·rw [ho,List.take_of_length_le (by omega)]
end Go.Proofs.YtokkjaflmcjlhaaGreat
namespace Go.Proofs.YtokkjaflmcjlhaaGreat
open Go.ChangeShapes Go.WideShapes Go.ChangeAt Go.RowKit
set_option linter.unusedVariables false
set_option linter.unusedSimpArgs false
theorem aOG (x:Int) (w:World):Calls Tryz.prog 314 #[.int .i64 x] w fun e w' =>e= .returned (.bool false)∧w' =w:=by
 go_enter Tryz.func314,Tryz.ntmps314
 go_wp2
 go_ret
 exact ⟨by simp,rfl⟩
theorem aHq (x y:Int) (w:World):Calls Tryz.prog 308 #[.int .i64 x,.int .i64 y] w fun e w' =>e= .returned (.int .i64 (qT x y))∧w' =w:=by
 go_enter Tryz.func308,Tryz.ntmps308
 go_wp2_with (go_at_call 314;refine (aOG _ _).mono ?_;rintro e w' ⟨rfl,hw⟩;rw [hw])
 all_goals (go_ret;refine ⟨?_,rfl⟩;unfold qT;(repeat' split)<;>first | rfl | (exfalso;omega))
def wA (w:World) (a:Option Addr) (l:List Int):Prop:= ∀j x,l[j]? =some x→ ∃b o,a=some ⟨b,o,none⟩∧w.cell? ⟨b,o+j,none⟩=some (.int .i64 x)
set_option maxHeartbeats 1000000 in
theorem aHr (a1 a2:Option Addr) (c1 c2:Nat) (l m:List Int) (w:World) (hl:l.length≤9223372036854775807) (hm:m.length≤9223372036854775807) (h1:wA w a1 l) (h2:wA w a2 m):
 Calls Tryz.prog 285 #[.slice a1 l.length c1,.slice a2 m.length c2] w fun e w' =>e= .returned (.int .i64 (cC l m))∧w' =w:=by
 have H1:=Lib.hid h1
 have H2:=Lib.hid h2
 clear h1 h2
 go_enter Tryz.func285,Tryz.ntmps285
 go_wp2
 go_loop [5,6,7,8,11] (fun _ _ _ _ s=> ∃k:Nat,s= .int .i64 k∧k≤l.length∧k≤m.length∧cC (l.drop k) (m.drop k)=cC l m) (fun _ _ _ _ s=>l.length - (intOf s).toNat)
 case atStart=>exact ⟨0,rfl,Nat.zero_le _,Nat.zero_le _,rfl⟩
 case round=>
  obtain ⟨k,rfl,hk,hk2,hv⟩:=hrel
  have HV:=Lib.hid hv
  clear hv
  by_cases hlt:k<l.length
  ·obtain ⟨x,hx⟩:=cE hlt
   obtain ⟨b1,o1,rfl,g1⟩:=H1.out k x hx
   by_cases hlt2:k<m.length
   ·obtain ⟨y,hy⟩:=cE hlt2
    obtain ⟨b2,o2,rfl,g2⟩:=H2.out k y hy
    have HD:=Lib.hid (show cC l m=if qT x y=0 then cC (l.drop (k+1)) (m.drop (k+1)) else qT x y by rw [←HV.out,fC hx,fC hy,aFj])
    by_cases hc:qT x y=0
    ·have HC:=Lib.hid hc
     clear hc
     go_wp2_with (go_at_call 308;refine (aHq _ _ _).mono ?_;rintro e w' ⟨rfl,hw⟩;rw [hw,HC.out])
     exact ⟨⟨k+1,by simp,by omega,by omega,by rw [HD.out,if_pos HC.out]⟩,by simp [intOf];omega⟩
    ·have HC:=Lib.hid hc
     have hcb:(qT x y !=0)=true:=by simpa using hc
     clear hc
     go_wp2_with (go_at_call 308;refine (aHq _ _ _).mono ?_;rintro e w' ⟨rfl,hw⟩;rw [hw])
     go_ret
     refine ⟨?_,rfl⟩
     rw [HD.out,if_neg HC.out];rfl
   ·have hge:m.length≤k:=by omega
    have HE:=Lib.hid (cF (l:=l) (m:=m) (k:=k) ⟨hk,hk2⟩ (.inr hlt2))
    go_wp2
    go_ret
    refine ⟨?_,rfl⟩
    rw [←HV.out,HE.out,if_neg (by omega),if_pos (by omega)];rfl
  ·have HE:=Lib.hid (cF (l:=l) (m:=m) (k:=k) ⟨hk,hk2⟩ (.inl hlt))
   by_cases hlm:l.length<m.length
   ·go_wp2
    go_ret
    refine ⟨?_,rfl⟩
    rw [←HV.out,HE.out,if_pos hlm];rfl
   ·go_wp2
    go_ret
    refine ⟨?_,rfl⟩
    rw [←HV.out,HE.out,if_neg hlm,if_neg (by omega)];rfl
theorem aMe (a1 a2:Option Addr) (c1 c2:Nat) (l m:List Int) (w:World) (hl:l.length≤9223372036854775807) (hm:m.length≤9223372036854775807) (h1:wA w a1 l) (h2:wA w a2 m):
 Calls Tryz.prog 269 #[.slice a1 l.length c1,.slice a2 m.length c2] w fun e w' =>e= .returned (.int .i64 (cC l m))∧w' =w:=by
 have HC:=Lib.hid (aHr a1 a2 c1 c2 l m w hl hm h1 h2)
 clear h1 h2
 go_enter Tryz.func269,Tryz.ntmps269
 go_wp2_with (go_at_call 285;refine HC.out.mono ?_;rintro e w' ⟨rfl,hw⟩;rw [hw])
 go_ret
 exact ⟨rfl,rfl⟩
end Go.Proofs.YtokkjaflmcjlhaaGreat
namespace Go.Proofs.YtokkjaflmcjlhaaGreat
open Go.ChangeShapes Go.WideShapes Go.ChangeAt Go.RowKit
set_option linter.unusedVariables false
set_option linter.unusedSimpArgs false
set_option maxRecDepth 100000
set_option maxHeartbeats 4000000
theorem pL (l:List Int):cC l l=0:=eD.2 rfl
theorem pM: ∀{l m:List Int},cC l m<0↔0<cC m l
 | [],[]=>by simp [cC]
 | [],_::_=>by simp [cC]
 | _::_,[]=>by simp [cC]
 | a::l,b::m=>by
   simp only [cC]
   by_cases h1:a<b
   ·simp [h1,show ¬b<a by omega]
   ·by_cases h2:b<a
    ·simp [h1,h2]
    ·simp only [h1,h2,if_false];exact pM
theorem lP: ∀{l m n:List Int},cC l m<0→cC m n<0→cC l n<0
 | [],[],n,h1,_=>by simp [cC] at h1
 | [],_::_,[],_,h2=>by simp [cC] at h2
 | [],_::_,_::_,_,_=>by simp [cC]
 | _::_,[],n,h1,_=>by simp [cC] at h1
 | a::l,b::m,[],_,h2=>by simp [cC] at h2
 | a::l,b::m,c::n,h1,h2=>by
   simp only [cC] at*
   rcases Int.lt_trichotomy a b with ab | ab | ab
   ·rcases Int.lt_trichotomy b c with bc | bc | bc
    ·rw [if_pos (by omega)];decide
    ·subst bc;rw [if_pos ab];decide
    ·rw [if_neg (by omega),if_pos bc] at h2;exact absurd h2 (by decide)
   ·subst ab
    rcases Int.lt_trichotomy a c with bc | bc | bc
    ·rw [if_pos bc];decide
    ·subst bc
     rw [if_neg (by omega),if_neg (by omega)] at*
     exact lP h1 h2
    ·rw [if_neg (by omega),if_pos bc] at h2;exact absurd h2 (by decide)
   ·rw [if_neg (by omega),if_pos ab] at h1;exact absurd h1 (by decide)
theorem aCG {l m n:List Int} (h1: ¬cC l m<0) (h2: ¬cC m n<0): ¬cC l n<0:=by
 intro h
 by_cases e:cC l m=0
 ·rw [eD.1 e] at h;exact h2 h
 ·exact h2 (lP (pM.2 (by omega)) h)
def leR (a b:List Int):Bool:=decide (cC a b≤0)
theorem aCt {a b:List Int}:leR a b=true↔ ¬cC b a<0:=by
 rw [leR,decide_eq_true_eq]
 constructor
 ·intro h q
  have:=pM.1 q
  omega
 ·intro h
  have: ¬0<cC a b:=fun q=>h (pM.2 q)
  omega
theorem aGh {a b:List Int} (h1:leR a b=true) (h2:leR b a=true):a=b:=by
 rw [aCt] at h1 h2
 have: ¬0<cC a b:=fun q=>h1 (pM.2 q)
 exact eD.1 (by omega)
def dH (l:List (List Int)):List (List Int):=l.mergeSort leR
theorem zL (l:List (List Int)):(dH l).Perm l:=List.mergeSort_perm l leR
theorem aDl (l:List (List Int)):(dH l).Pairwise (fun a b=>leR a b=true):=
 List.pairwise_mergeSort (fun a b c h1 h2=>by rw [aCt] at*;exact aCG h2 h1) (fun a b=>by
  by_cases h:cC b a<0
  ·have:leR b a=true:=by rw [leR,decide_eq_true_eq];omega
   simp [this]
  ·have:leR a b=true:=aCt.2 h
   simp [this]) l
theorem aMf {l m:List (List Int)} (hp:m.Perm l) (hs:m.Pairwise (fun a b=>leR a b=true)):m=dH l:=
 List.Perm.eq_of_pairwise (le:=fun a b=>leR a b=true) (fun a b _ _ h1 h2=>aGh h1 h2) hs (aDl l) (hp.trans (zL l).symm)
theorem aBc (l:List (List Int)):(dH l).length=l.length:=(zL l).length_eq
end Go.Proofs.YtokkjaflmcjlhaaGreat
namespace Go.Proofs.YtokkjaflmcjlhaaGreat
open Go.ChangeShapes Go.WideShapes Go.ChangeAt Go.RowKit Go.Shelf Go.Lib
set_option linter.unusedVariables false
set_option linter.unusedSimpArgs false
theorem aAp {w:World} {k:Nat} {ι:Type} (f:ι→List bP) (g:ι→List Value) (h:ι→List Nat): ∀{L:List ι},(∀i∈L,(f i).length=k∧dG w (f i) (g i) (h i))→cV w k (L.map f) (L.map g) (L.map h)
 | [],_=>by simp only [List.map_nil];unfold cV;exact ⟨rfl,rfl⟩
 | i::L,hL=>by
   simp only [List.map_cons]
   unfold cV
   exact ⟨_,_,_,_,rfl,rfl,(hL i (by simp)).1,(hL i (by simp)).2,aAp f g h fun j hj=>hL j (by simp [hj])⟩
theorem sJ {w:World} {k:Nat}: ∀{xs:List (List bP)} {css:List (List Value)} {Fs:List (List Nat)},cV w k xs css Fs→css.length=xs.length∧Fs.length=xs.length
 | [],_,_,h=>by unfold cV at h;rw [h.1,h.2];exact ⟨rfl,rfl⟩
 | x::xs,_,_,h=>by
   unfold cV at h
   obtain ⟨c,css',F,Fs',rfl,rfl,_,_,h3⟩:=h
   have:=sJ h3
   simp [this.1,this.2]
theorem sK {w:World} {k:Nat}: ∀{xs:List (List bP)} {css:List (List Value)} {Fs:List (List Nat)} {i:Nat} {x:List bP},cV w k xs css Fs→xs[i]? =some x→ ∃c F,css[i]? =some c∧Fs[i]? =some F∧x.length=k∧dG w x c F
 | [],_,_,_,_,_,hx=>by simp at hx
 | y::xs,_,_,0,x,h,hx=>by
   unfold cV at h
   obtain ⟨c,css',F,Fs',rfl,rfl,h1,h2,_⟩:=h
   simp at hx;subst hx
   exact ⟨c,F,rfl,rfl,h1,h2⟩
 | y::xs,_,_,i+1,x,h,hx=>by
   unfold cV at h
   obtain ⟨c,css',F,Fs',rfl,rfl,_,_,h3⟩:=h
   simp at hx
   simpa using sK h3 hx
theorem kF: ∀(l:List (List Value)) (i:Nat) (v:Value),(∀d∈l,d.length=1)→l[i]? =some [v]→l.flatten[i]? =some v
 | [],i,v,_,h=>by simp at h
 | d::l,0,v,hd,h=>by simp at h;subst h;simp
 | d::l,i+1,v,hd,h=>by
   have h1:=hd d (by simp)
   rw [List.flatten_cons,List.getElem?_append_right (by omega),h1]
   exact kF l i v (fun d' hd' =>hd d' (by simp [hd'])) (by simpa using h)
theorem aAq {ι:Type} (f:ι→Value): ∀L:List ι,(L.map fun i=>[f i]).flatten=L.map f
 | []=>rfl
 | i::L=>by rw [List.map_cons,List.flatten_cons,aAq f L];rfl
theorem sL: ∀(l:List (List Value)),(∀d∈l,d.length=1)→l.flatten.length=l.length
 | [],_=>rfl
 | d::l,hd=>by
   rw [List.flatten_cons,List.length_append,hd d (by simp),sL l fun d' hd' =>hd d' (by simp [hd'])]
   simp;omega
theorem aMg {w:World} {e:Nat} {r:List Int} {c:List Value} {F:List Nat} (h:dG w [.sl e 1 (r.map intD)] c F): ∃a cap,c= [.slice a r.length cap]∧wA w a r∧(∀x∈a,x.block∈F)∧r.length≤9223372036854775807:=by
 unfold dG at h
 obtain ⟨v,cs',F1,F2,rfl,rfl,h1,h2⟩:=h
 unfold dG at h2
 obtain ⟨rfl,rfl⟩:=h2
 unfold pS at h1
 obtain ⟨css,Fs,q1,q2,q3⟩:=h1
 rcases q1.2 with ⟨rfl,hz⟩ | ⟨g,cap,cur,rfl,_,hb,hn,hcap2,hsz,htk⟩
 ·simp at hz
  subst hz
  exact ⟨none,0,rfl,fun j x hx=>by simp at hx,by simp,by simp⟩
 ·refine ⟨some ⟨g,0,none⟩,cap,by simp,fun j x hx=>⟨g,0,rfl,?_⟩,fun x hx=>?_,by have:cap≤maxLen:=hcap2;unfold maxLen at this;simp at hn;omega⟩
  ·obtain ⟨c0,F0,g1,_,_,g4⟩:=sK q3 (show (r.map intD)[j]? =some (intD x) by rw [List.getElem?_map,hx];rfl)
   unfold intD dG at g4
   obtain ⟨v0,cs0,_,_,rfl,_,g5,g6⟩:=g4
   unfold dG at g6
   obtain ⟨rfl,_⟩:=g6
   unfold pS at g5
   obtain ⟨rfl,_⟩:=g5
   have hlen: ∀d∈css,d.length=1:=fun d hd=>by
    obtain ⟨i,hi⟩:=List.getElem?_of_mem hd
    have hil:i<(r.map intD).length:=by
     have:=(sJ q3).1
     have:=(List.getElem?_eq_some_iff.1 hi).1
     omega
    obtain ⟨c1,F1,k1,_,k3,k4⟩:=sK q3 (List.getElem?_eq_getElem hil)
    rw [hi] at k1
    injection k1 with k1;subst k1
    rw [List.getElem_map] at k4
    unfold intD dG at k4
    obtain ⟨_,_,_,_,rfl,_,_,k6⟩:=k4
    unfold dG at k6
    rw [k6.1];rfl
   have hflat:css.flatten[j]? =some (.int .i64 x):=by
    exact kF css j _ hlen g1
   have hj:j<r.length:=(List.getElem?_eq_some_iff.1 hx).1
   simp only [World.cell?,hb,Nat.zero_add,Option.isSome_none,Bool.false_eq_true,if_false]
   rw [←Array.getElem?_toList,←hflat,←htk,List.getElem?_take_of_lt (by simpa using hj)]
  ·simp at hx
   subst hx
   rw [q2]
   simp [Value.ownBlock]
theorem aBd {w:World} {enc:Nat→Value} {g n:Nat} {os:Array Obj} {cur:Array Value} {e:TypeId} {fr:Nat × Nat} (d:Array Nat) (hb:w.heap[g]? =some (.cells cur e fr)):
 (sortWorld enc w g 0 n d os).heap[g]? =some (.cells (Go.Sort.putCells enc 0 d cur) e fr):=by
 have hg:g<w.heap.size:=(Array.getElem?_eq_some_iff.1 hb).1
 unfold sortWorld
 rw [Go.Sort.heap_grow_old _ _ (by simpa using hg)]
 simp [Go.Sort.putRow,Go.Sort.mapBlock,Go.Sort.ahead,Array.getElem?_modify,hb,Go.Sort.onCells]
theorem nD {w:World} {enc:Nat→Value} {g n k:Nat} {os:Array Obj} (d:Array Nat) (hk:k<w.heap.size) (hne:k≠g):(sortWorld enc w g 0 n d os).heap[k]? =w.heap[k]? :=by
 unfold sortWorld
 rw [Go.Sort.heap_grow_old _ _ (by simpa using hk)]
 simp [Go.Sort.putRow,Go.Sort.mapBlock,Go.Sort.ahead,Array.getElem?_modify,Ne.symm hne]
theorem aDm (enc:Nat→Value) (cur:Array Value) (ts:List Nat) (h:ts.length≤cur.size):(Go.Sort.putCells enc 0 ts.toArray cur).toList.take ts.length=ts.map enc:=by
 apply List.ext_getElem?
 intro j
 by_cases hj:j<ts.length
 ·rw [List.getElem?_take_of_lt hj,Array.getElem?_toList]
  simp [Go.Sort.putCells,hj,show j<cur.size by omega]
 ·rw [List.getElem?_take_eq_none (by omega),List.getElem?_eq_none (by simp;omega)]
theorem yA {w w' :World} {a:Option Addr} {r:List Int} (h:wA w a r) (hk: ∀x∈a,w'.heap[x.block]? =w.heap[x.block]?):wA w' a r:=fun j x hx=>by
 obtain ⟨b,o,rfl,hc⟩:=h j x hx
 refine ⟨b,o,rfl,?_⟩
 have:=hk ⟨b,o,none⟩ rfl
 unfold World.cell? at*
 simp only at*
 rw [this];exact hc
end Go.Proofs.YtokkjaflmcjlhaaGreat
