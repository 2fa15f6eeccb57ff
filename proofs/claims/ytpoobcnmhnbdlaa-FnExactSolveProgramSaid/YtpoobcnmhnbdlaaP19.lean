/-
  Contracts and plain laws, joined: part 10.
-/
import Derived.Test.YtpoobcnmhnbdlaaP18
namespace Go.Proofs.Ytpoobcnmhnbdlaa
open Go.ChangeShapes Go.WideShapes Go.ChangeAt Go.RowKit
set_option linter.unusedVariables false
set_option linter.unusedSimpArgs false
set_option maxRecDepth 100000
set_option maxHeartbeats 4000000
abbrev tG (f:Bool) (a:aC) (b:aC):List AV × List (Nat × Rs) × AV × List (Nat × Rs):=([.ptr 0 0,.agg [vI a.num,vI a.den],.agg [vI b.num,vI b.den]],[(0,.box 86 [vB f])],.agg [vI (((aQ a b).1).num),vI (((aQ a b).1).den)],[(0,.box 86 [vB (f || !(aQ a b).2)])])
abbrev aAq (f:Bool) (a:aC) (b:aC):Prop:=sO Try.prog 68 (tG f a b).1 (tG f a b).2.1 (tG f a b).2.2.1 (tG f a b).2.2.2
theorem aIv (f:Bool) (a b:aC):aAq f a b:=by
 refine pM dR bK Try.func68 (by kernel_rfl) (by kernel_rfl) (dA (qT a b)<| .br (.fin [(0,0)]) (.fin [(0,0)])) (p:=uZ a b∧(((f)=true→(((aQ a b).1).num)=(((aQ a b).1).num)∧(((aQ a b).1).den)=(((aQ a b).1).den)∧(true)=(f || !(aQ a b).2)∧True)∧((f)=false→(((aQ a b).1).num)=(((aQ a b).1).num)∧(((aQ a b).1).den)=(((aQ a b).1).den)∧(!((aQ a b).2))=(f || !(aQ a b).2)∧True))) (by kernel_rfl) ?_
 refine ⟨aDg a b,fun g20=>?_,fun g20=>?_⟩
 ·refine ⟨rfl,rfl,?_,trivial⟩
  ·first | (rw [g20]<;>rfl) | rfl | (simp [*];done)
 ·refine ⟨rfl,rfl,?_,trivial⟩
  ·first | (rw [g20]<;>rfl) | rfl | (simp [*];done)
abbrev pG (f:Bool) (a:aC) (b:aC) (c:aC):List AV × List (Nat × Rs) × AV × List (Nat × Rs):=([.ptr 0 0,.agg [vI a.num,vI a.den],.agg [vI b.num,vI b.den],.agg [vI c.num,vI c.den]],[(0,.box 86 [vB f])],.agg [vI (((bX a b c).1).num),vI (((bX a b c).1).den)],[(0,.box 86 [vB (f || !(bX a b c).2)])])
abbrev wX (f:Bool) (a:aC) (b:aC) (c:aC):Prop:=sO Try.prog 70 (pG f a b c).1 (pG f a b c).2.1 (pG f a b c).2.2.1 (pG f a b c).2.2.2
theorem aFQ (f:Bool) (a b c:aC):wX f a b c:=by
 refine pM dR bK Try.func70 (by kernel_rfl) (by kernel_rfl) (.br (.fin [(0,0)]) (.lit<| .lit<| .lit<| .br (.fin [(0,0)]) (dA (uY b c)<| dA (uX a ((bR b c).1))<| .br (.fin [(0,0)]) (.lit<| .lit<| .br (.fin [(0,0)]) (.fin [(0,0)]))))) (p:=((decide (b.num=(0:Int)))=true→a.num=(((bX a b c).1).num)∧a.den=(((bX a b c).1).den)∧(f)=(f || !(bX a b c).2)∧True)∧((decide (b.num=(0:Int)))=false→((decide (c.num=(0:Int)))=true→a.num=(((bX a b c).1).num)∧a.den=(((bX a b c).1).den)∧(f)=(f || !(bX a b c).2)∧True)∧((decide (c.num=(0:Int)))=false→aA9 b c∧(aA8 a ((bR b c).1)∧(((f)=true→(((cN a ((bR b c).1)).1).num)=(((bX a b c).1).num)∧(((cN a ((bR b c).1)).1).den)=(((bX a b c).1).den)∧(true)=(f || !(bX a b c).2)∧True)∧((f)=false→((!((bR b c).2))=true→(((cN a ((bR b c).1)).1).num)=(((bX a b c).1).num)∧(((cN a ((bR b c).1)).1).den)=(((bX a b c).1).den)∧(true)=(f || !(bX a b c).2)∧True)∧((!((bR b c).2))=false→(((cN a ((bR b c).1)).1).num)=(((bX a b c).1).num)∧(((cN a ((bR b c).1)).1).den)=(((bX a b c).1).den)∧(!((cN a ((bR b c).1)).2))=(f || !(bX a b c).2)∧True))))))) (by kernel_rfl) ?_
 refine ⟨fun g16=>?_,fun g16=>?_⟩
 ·replace g16:=yq g16
  refine ⟨?_,?_,?_,trivial⟩
  ·first | (rw [bX,if_pos (.inl g16)]<;>first | rfl | (simp;done)) | (rw [bX,if_pos (.inr c0)]<;>first | rfl | (simp;done)) | (rw [hP]<;>first | rfl | (simp [*];done))
  ·first | (rw [bX,if_pos (.inl g16)]<;>first | rfl | (simp;done)) | (rw [bX,if_pos (.inr c0)]<;>first | rfl | (simp;done)) | (rw [hP]<;>first | rfl | (simp [*];done))
  ·first | (rw [bX,if_pos (.inl g16)]<;>first | rfl | (simp;done)) | (rw [bX,if_pos (.inr c0)]<;>first | rfl | (simp;done)) | (rw [hP]<;>first | rfl | (simp [*];done))
 ·replace g16:=nq g16
  refine ⟨fun c0=>?_,fun c0=>?_⟩
  ·replace c0:=yq c0
   refine ⟨?_,?_,?_,trivial⟩
   ·first | (rw [bX,if_pos (.inl g16)]<;>first | rfl | (simp;done)) | (rw [bX,if_pos (.inr c0)]<;>first | rfl | (simp;done)) | (rw [hP]<;>first | rfl | (simp [*];done))
   ·first | (rw [bX,if_pos (.inl g16)]<;>first | rfl | (simp;done)) | (rw [bX,if_pos (.inr c0)]<;>first | rfl | (simp;done)) | (rw [hP]<;>first | rfl | (simp [*];done))
   ·first | (rw [bX,if_pos (.inl g16)]<;>first | rfl | (simp;done)) | (rw [bX,if_pos (.inr c0)]<;>first | rfl | (simp;done)) | (rw [hP]<;>first | rfl | (simp [*];done))
  ·replace c0:=nq c0
   have hP:bX a b c=((cN a (bR b c).1).1,(bR b c).2&&(cN a (bR b c).1).2):=by rw [bX,if_neg (by rintro (q | q);exact g16 q;exact c0 q)]
   refine ⟨aHZ b c,aHY a ((bR b c).1),fun g39=>?_,fun g39=>?_⟩
   ·refine ⟨?_,?_,?_,trivial⟩
    ·first | (rw [bX,if_pos (.inl g16)]<;>first | rfl | (simp;done)) | (rw [bX,if_pos (.inr c0)]<;>first | rfl | (simp;done)) | (rw [hP]<;>first | rfl | (simp [*];done))
    ·first | (rw [bX,if_pos (.inl g16)]<;>first | rfl | (simp;done)) | (rw [bX,if_pos (.inr c0)]<;>first | rfl | (simp;done)) | (rw [hP]<;>first | rfl | (simp [*];done))
    ·first | (rw [bX,if_pos (.inl g16)]<;>first | rfl | (simp;done)) | (rw [bX,if_pos (.inr c0)]<;>first | rfl | (simp;done)) | (rw [hP]<;>first | rfl | (simp [*];done))
   ·refine ⟨fun g43=>?_,fun g43=>?_⟩
    ·replace g43:=nt g43
     refine ⟨?_,?_,?_,trivial⟩
     ·first | (rw [bX,if_pos (.inl g16)]<;>first | rfl | (simp;done)) | (rw [bX,if_pos (.inr c0)]<;>first | rfl | (simp;done)) | (rw [hP]<;>first | rfl | (simp [*];done))
     ·first | (rw [bX,if_pos (.inl g16)]<;>first | rfl | (simp;done)) | (rw [bX,if_pos (.inr c0)]<;>first | rfl | (simp;done)) | (rw [hP]<;>first | rfl | (simp [*];done))
     ·first | (rw [bX,if_pos (.inl g16)]<;>first | rfl | (simp;done)) | (rw [bX,if_pos (.inr c0)]<;>first | rfl | (simp;done)) | (rw [hP]<;>first | rfl | (simp [*];done))
    ·replace g43:=nf g43
     refine ⟨?_,?_,?_,trivial⟩
     ·first | (rw [bX,if_pos (.inl g16)]<;>first | rfl | (simp;done)) | (rw [bX,if_pos (.inr c0)]<;>first | rfl | (simp;done)) | (rw [hP]<;>first | rfl | (simp [*];done))
     ·first | (rw [bX,if_pos (.inl g16)]<;>first | rfl | (simp;done)) | (rw [bX,if_pos (.inr c0)]<;>first | rfl | (simp;done)) | (rw [hP]<;>first | rfl | (simp [*];done))
     ·first | (rw [bX,if_pos (.inl g16)]<;>first | rfl | (simp;done)) | (rw [bX,if_pos (.inr c0)]<;>first | rfl | (simp;done)) | (rw [hP]<;>first | rfl | (simp [*];done))
abbrev mF (a:aC):Prop:=gF Try.prog 34 [.agg [.int .i64 a.num,.int .i64 a.den]] (.agg [vI ((dL a).num),vI ((dL a).den)]) []
theorem tH (a:aC) (ha: -9223372036854775807≤a.num∧a.num≤9223372036854775807):mF a:=by
 refine cT dR bK Try.func34 (by kernel_rfl) (.fin []) (p:=dN (-a.num)∧(-a.num)=((dL a).num)∧a.den=((dL a).den)∧True) (by kernel_rfl) ?_
 refine ⟨by first | exact ⟨by omega,by omega⟩ | omega,?_,?_,trivial⟩
 ·rfl
 ·rfl
theorem aAr (a c:aC): -9223372036854775807≤(aQ a c).1.num∧(aQ a c).1.num≤9223372036854775807:=by
 cases e:(aQ a c).2 with
 | true=>have:=cF (tX e);omega
 | false=>rw [aDk e];exact ⟨by decide,by decide⟩
theorem aKC {α:Type} {A l:List α} {k:Nat} (h:A.length=k):(A++l.drop k)[k]? =l[k]? :=by
 subst h
 rw [List.getElem?_append_right (Nat.le_refl _)]
 simp [List.getElem?_drop]
theorem qY {α:Type} {A l:List α} {k:Nat} {y:α} (h:A.length=k) (hk:k<l.length):(A++l.drop k).set k y=(A++[y])++l.drop (k+1):=by
 subst h
 rw [List.drop_eq_getElem_cons hk,List.set_append_right _ _ (Nat.le_refl _),Nat.sub_self,List.set_cons_zero,List.append_assoc];rfl
theorem eR {α:Type} {A l:List α} {k:Nat} (h:l.length≤k):A++l.drop k=A:=by rw [List.drop_eq_nil_of_le h,List.append_nil]
theorem nt2 (A B:Bool):(!A || !B)= !(A&&B):=by cases A<;>cases B<;>rfl
theorem nt3 (f A B:Bool):((f || !A) || !B)=(f || !(A&&B)):=by cases f<;>cases A<;>cases B<;>rfl
theorem qH (l p:List aC) (j n:Nat):(dX l p j n).length=n:=by simp [dX]
theorem aCl {l p:List aC} {j k:Nat} {x c y:aC} (h: ¬k=j) (hx:l[k]? =some x) (hc:l.getD j zR=c) (hy:p[k]? =some y):chX l (l.getD j zR) p j k=bX x (dL c) y:=by rw [chX,if_neg h,aY hx,hc,aY hy,aCD]
theorem aCm {l p:List aC} {j k:Nat} {c a:aC} (h:k=j) (hc:l.getD j zR=c) (hy:p.getD j zR=(aQ zD a).1) (vc:aT c=true) (va:aT a=true) (h0: ¬a.num=0):chX l (l.getD j zR) p j k=(dL (aQ c a).1,(aQ c a).2):=by
 rw [chX,if_pos h,hc,h,hy];exact aH8 vc va h0
theorem aHj {d:DictionaryD} {i j n:Nat} {a:aC} (hj:j<n) (ha:gI d i j=a):(eU d i j n).getD j zR=(aQ zD a).1:=by
 have e:(eU d i j n)[j]? =some (aBV d i j j).1:=by rw [eU,List.getElem?_map,List.getElem?_range hj];rfl
 rw [aY e,aBV,if_pos rfl,ha]
abbrev kR (l:List aC) (p:List aC) (a:aC) (j:Int) (f:Bool):List AV × List (Nat × Rs) × AV × List (Nat × Rs):=([.p none (.sl 28 2 (l.map aA)),.rp none [.int .i64 j],.ptr 0 0,.rp none [.int .i64 a.num,.int .i64 a.den],.rp none [.sl 28 2 (p.map aA)]],[(0,.box 84 [.ptr 1 0]),(1,.box 86 [vB f])],.own 2,[(0,.box 84 [.ptr 1 0]),(1,.box 86 [vB (f || !eO l p j.toNat l.length)]),(2,.arr 28 2 true ((dX l p j.toNat l.length).map aA))])
abbrev qZ (l:List aC) (p:List aC) (a:aC) (j:Int) (f:Bool):Prop:=sO Try.prog 69 (kR l p a j f).1 (kR l p a j f).2.1 (kR l p a j f).2.2.1 (kR l p a j f).2.2.2
theorem aAs (l p:List aC) (a:aC) (j:Int) (f:Bool) (hj:0≤j∧j<l.length) (hl:l.length≤15) (hp:p.length=l.length) (hv: ∀x∈l,aT x=true) (hva:aT a=true) (hnz: ¬a.num=0) (hpj:p.getD j.toNat zR=(aQ zD a).1):qZ l p a j f:=by
 refine pM dR bK Try.func69 (by kernel_rfl) (by kernel_rfl) (.elem _ aA l (fun e11=> .call (.own 0) [(0,.arr 28 2 true (l.map aA))]<| .len l.length<| .loop (Nat × (List aC) × Bool) (Q3 Nat (List aC) Bool) [0,8,17,18,19,20,21,22,23,24,25,26,27,28,29,30,31,32,33,34,35,36,37,38,39,40,41,42,43,44,45,46] [1,1400] (fun yy0=>[(17,vI (yy0.1:Int)),(0,.own 1400)]) (fun yy0=>[(1400,some (.arr 28 2 true (yy0.2.1.map aA))),(1,some (.box 86 [vB yy0.2.2]))]) (fun yy0=>yy0.1≤l.length∧yy0.2.1=dX l p j.toNat yy0.1++l.drop yy0.1∧yy0.2.2=(f || !eO l p j.toNat yy0.1)∧yy0.2.1.length=l.length) (fun yy0=>l.length - yy0.1) (fun yy0=> .br (.br (fN (tG yy0.2.2 e11 a) [(0,1)]<| .call (.agg [vI ((dL ((aQ e11 a).1)).num),vI ((dL ((aQ e11 a).1)).den)]) []<| .len yy0.2.1.length<| .set aC aA yy0.2.1 (fun s7_8=>(dL ((aQ e11 a).1))) (fun s7_8=> .back [(1,1),(1400,1400)])) (.len yy0.2.1.length<| .elem _ aA yy0.2.1 (fun e37=> .call (.agg [vI ((dL e11).num),vI ((dL e11).den)]) []<| .elem _ aA p (fun e42=>fN (pG yy0.2.2 e37 (dL e11) e42) [(0,1)]<| .len yy0.2.1.length<| .set aC aA yy0.2.1 (fun s8_15=>((bX e37 (dL e11) e42).1)) (fun s8_15=> .back [(1,1),(1400,1400)]))))) (.fin [(0,0),(1,1),(2,1400)])))) (p:=0≤j∧Em aA l ((j).toNat) fun e11=>gF Try.prog 67 [.one (.sl 28 2 (l.map aA))] (.own 0) [(0,.arr 28 2 true (l.map aA))]∧(Lm aA l∧((∃(k:Nat) (o:List aC) (g:Bool),(0:Int)=(k:Int)∧l.map aA=o.map aA∧(f)=g∧k≤l.length∧o=dX l p j.toNat k++l.drop k∧g=(f || !eO l p j.toNat k)∧o.length=l.length)∧ ∀(k:Nat) (o:List aC) (g:Bool),(k≤l.length∧o=dX l p j.toNat k++l.drop k∧g=(f || !eO l p j.toNat k)∧o.length=l.length)→((decide ((k:Int)<((l.length:Nat):Int)))=true→((decide ((k:Int)=j))=true→aAq g e11 a∧e11.num=e11.num∧e11.den=e11.den∧a.num=a.num∧a.den=a.den∧(g)=g∧(mF ((aQ e11 a).1)∧(0≤(k:Int)∧Lm aA o∧(k:Int)<((o.length:Nat):Int)∧(o.map aA=o.map aA∧k<o.length∧ ∀s7_8,o[k]? =some s7_8→cV (aA s7_8)=true∧0+2≤(aA s7_8).length∧(aA s7_8).take 0++[.int .i64 ((dL ((aQ e11 a).1)).num),.int .i64 ((dL ((aQ e11 a).1)).den)]++(aA s7_8).drop (0+2)=aA (dL ((aQ e11 a).1))∧dN ((k:Int)+(1:Int))∧ ∃(k' :Nat) (o' :List aC) (g' :Bool),((k:Int)+(1:Int))=(k' :Int)∧(o.set k (dL ((aQ e11 a).1))).map aA=o'.map aA∧(g || !(aQ e11 a).2)=g' ∧(k' ≤l.length∧o' =dX l p j.toNat k' ++l.drop k' ∧g' =(f || !eO l p j.toNat k')∧o'.length=l.length)∧l.length - k' <l.length - k))))∧((decide ((k:Int)=j))=false→0≤(k:Int)∧Lm aA o∧(k:Int)<((o.length:Nat):Int)∧Em aA o k fun e37=>mF e11∧(0≤(k:Int)∧Em aA p k fun e42=>wX g e37 (dL e11) e42∧e37.num=e37.num∧e37.den=e37.den∧((dL e11).num)=((dL e11).num)∧((dL e11).den)=((dL e11).den)∧e42.num=e42.num∧e42.den=e42.den∧(g)=g∧(0≤(k:Int)∧Lm aA o∧(k:Int)<((o.length:Nat):Int)∧(o.map aA=o.map aA∧k<o.length∧ ∀s8_15,o[k]? =some s8_15→cV (aA s8_15)=true∧0+2≤(aA s8_15).length∧(aA s8_15).take 0++[.int .i64 (((bX e37 (dL e11) e42).1).num),.int .i64 (((bX e37 (dL e11) e42).1).den)]++(aA s8_15).drop (0+2)=aA ((bX e37 (dL e11) e42).1)∧dN ((k:Int)+(1:Int))∧ ∃(k' :Nat) (o' :List aC) (g' :Bool),((k:Int)+(1:Int))=(k' :Int)∧(o.set k ((bX e37 (dL e11) e42).1)).map aA=o'.map aA∧(g || !(bX e37 (dL e11) e42).2)=g' ∧(k' ≤l.length∧o' =dX l p j.toNat k' ++l.drop k' ∧g' =(f || !eO l p j.toNat k')∧o'.length=l.length)∧l.length - k' <l.length - k)))))∧((decide ((k:Int)<((l.length:Nat):Int)))=false→(g)=(f || !eO l p j.toNat l.length)∧o.map aA=(dX l p j.toNat l.length).map aA∧True)))) (by kernel_rfl) ?_
 refine ⟨by omega,rfl,by first | omega | (rw [hL];omega),fun e11 h11=>?_⟩
 have hc:l.getD j.toNat zR=e11:=aY h11
 have hcv:=hv _ (List.mem_of_getElem? h11)
 have hcb:=cF hcv
 refine ⟨vH l (by omega) (by omega),List.length_map _,⟨0,l,f,rfl,rfl,rfl,Nat.zero_le _,rfl,by simp [eO],rfl⟩,fun k o g ⟨hk,ho,hg,hL⟩=>?_⟩
 refine ⟨fun c0=>?_,fun c0=>?_⟩
 ·replace c0:=yq c0
  refine ⟨fun c1=>?_,fun c1=>?_⟩
  ·replace c1:=yq c1
   refine ⟨aIv g e11 a,rfl,rfl,rfl,rfl,rfl,tH ((aQ e11 a).1) (by first | omega | exact aAr _ _),by omega,List.length_map _,by first | omega | (rw [hL];omega),rfl,by first | omega | (rw [hL];omega),fun s7_8 hs7_8=>⟨rfl,Nat.le_of_ble_eq_true rfl,rfl,?_⟩⟩
   refine ⟨⟨by omega,by omega⟩,?_⟩
   exact ⟨k+1,_,g || !(aQ e11 a).2,rfl,rfl,rfl,⟨by omega,by first | (rw [ho,qY (qH _ _ _ _) (by omega),cI,aCm (by omega) hc hpj hcv hva hnz]<;>rfl) | (rw [ho,qY (qH _ _ _ _) (by omega),cI,aCl (by omega) w37 hc h42]<;>rfl),by first | (rw [hg,nt3,cY,aCm (by omega) hc hpj hcv hva hnz]<;>rfl) | (rw [hg,nt3,cY,aCl (by omega) w37 hc h42]<;>rfl),by rw [List.length_set];exact hL⟩,by omega⟩
  ·replace c1:=nq c1
   refine ⟨by omega,List.length_map _,by first | omega | (rw [hL];omega),rfl,by first | omega | (rw [hL];omega),fun e37 h37=>?_⟩
   have w37:l[k]? =some e37:=by rw [←aKC (A:=dX l p j.toNat k) (l:=l) (qH l p j.toNat k),←ho];exact h37
   refine ⟨tH e11 (by first | omega | exact aAr _ _),by omega,rfl,by first | omega | (rw [hL];omega),fun e42 h42=>?_⟩
   refine ⟨aFQ g e37 (dL e11) e42,rfl,rfl,rfl,rfl,rfl,rfl,rfl,by omega,List.length_map _,by first | omega | (rw [hL];omega),rfl,by first | omega | (rw [hL];omega),fun s8_15 hs8_15=>⟨rfl,Nat.le_of_ble_eq_true rfl,rfl,?_⟩⟩
   refine ⟨⟨by omega,by omega⟩,?_⟩
   exact ⟨k+1,_,g || !(bX e37 (dL e11) e42).2,rfl,rfl,rfl,⟨by omega,by first | (rw [ho,qY (qH _ _ _ _) (by omega),cI,aCm (by omega) hc hpj hcv hva hnz]<;>rfl) | (rw [ho,qY (qH _ _ _ _) (by omega),cI,aCl (by omega) w37 hc h42]<;>rfl),by first | (rw [hg,nt3,cY,aCm (by omega) hc hpj hcv hva hnz]<;>rfl) | (rw [hg,nt3,cY,aCl (by omega) w37 hc h42]<;>rfl),by rw [List.length_set];exact hL⟩,by omega⟩
 ·replace c0:=nq c0
  refine ⟨?_,?_,trivial⟩
  ·first | (rw [hg,show k=l.length by omega];done) | (rw [ho,show k=l.length by omega,eR (Nat.le_refl _)];done)
  ·first | (rw [hg,show k=l.length by omega];done) | (rw [ho,show k=l.length by omega,eR (Nat.le_refl _)];done)
theorem gH {d:DictionaryD} {i j:Nat} (h:(gI d i j).num=0):eA d i j=(tF,false):=by rw [eA,if_neg (fun q=>q.1 h)]
theorem aIw {d:DictionaryD} {i j:Nat} (h:(!((kG d i j)&&(tE d i j).2))=true):eA d i j=(tF,false):=by
 rw [eA,if_neg]
 rintro ⟨_,h1,h2⟩
 rw [h1,h2] at h;cases h
theorem aHk {d:DictionaryD} {i j:Nat} (h0: ¬(gI d i j).num=0) (h:(!((kG d i j)&&(tE d i j).2))=false):eA d i j=(aH d i j,true):=by
 rw [eA,if_pos]
 rw [Bool.not_eq_false',Bool.and_eq_true] at h
 exact ⟨h0,h.1,h.2⟩
theorem aHl (F R C V:Bool):((!(F&&R) || !C) || !V)= !(((F&&R)&&C)&&V):=by cases F<;>cases R<;>cases C<;>cases V<;>rfl
theorem aDz (F R C L:Bool):((!(F&&R) || !C) || !L)= !(F&&(R&&(C&&L))):=by cases F<;>cases R<;>cases C<;>cases L<;>rfl
theorem vJ (d:DictionaryD) (i j r:Nat):(gD d i j r).length=r:=by simp [gD]
theorem aHm {d:DictionaryD} {i j r:Nat} {p:List aC} {x c l:aC} {row:List aC} (h: ¬r=i) (hp:p=eU d i j d.others.length) (hr:d.table[r]? =some row) (hn:row.length=d.others.length) (hc:row[j]? =some c) (hx:d.limits[r]? =some x) (hl:(dP d i j).1=l):wV d i j r=dX row p j row.length∧yV d i j r=(bX x (dL c) l).1∧aCh d i j r=(eO row p j row.length&&(bX x (dL c) l).2):=by
 rw [aCD,hn];exact aHi h hp hr hc hx hl
end Go.Proofs.Ytpoobcnmhnbdlaa
