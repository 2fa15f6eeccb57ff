/-
  Contracts and plain laws, joined: part 5.
-/
import Derived.Test.YtlidmoeecphbmaaGreates3
import Derived.IntWalk
namespace Go.Proofs.YtlidmoeecphbmaaGreat
open Go.ChangeShapes Go.WideShapes Go.ChangeAt Go.RowKit
set_option linter.unusedVariables false
set_option linter.unusedSimpArgs false
set_option maxRecDepth 100000
set_option maxHeartbeats 4000000
def cI:List Int->List Int->Int
 | [],[]=>0
 | [],_::_=> -1
 | _::_,[]=>1
 | a::l,b::m=>if a<b then -1 else if b<a then 1 else cI l m
theorem fG: ∀{l m:List Int},cI l m=0↔l=m
 | [],[]=>by simp[cI]
 | [],_::_=>by simp[cI]
 | _::_,[]=>by simp[cI]
 | a::l,b::m=>by
   unfold cI;split
   ·simp;omega
   split
   ·simp;omega
   rw[fG];have:a=b:=by omega
   simp[this]
theorem nG {α:Type}{l:List α}{k:Nat}{x:α}(h:l[k]? =some x):l.drop k=x::l.drop (k+1):=by
 obtain⟨hk,rfl⟩:=aGL.1 h;exact List.drop_eq_getElem_cons hk
theorem aAc {α:Type}{l:List α}{k:Nat}(h:l.length<=k):l.drop k= []:=List.drop_eq_nil_of_le h
theorem kZ {l m:List Int}{k:Nat}(hk:k<=l.length/\k<=m.length)(hs: ¬k<l.length\/ ¬k<m.length):cI (l.drop k) (m.drop k)=if l.length<m.length then -1 else if m.length<l.length then 1 else 0:=by
 by_cases h1:k<l.length
 ·obtain⟨x,hx⟩:=cK h1;rw[nG hx,aAc (l:=m) (by omega),cI,if_neg (by omega),if_pos (by omega)]
 rw[aAc (l:=l) (by omega)];by_cases h2:k<m.length
 ·obtain⟨x,hx⟩:=cK h2;rw[nG hx,cI,if_pos (by omega)]
 rw[aAc (l:=m) (by omega),cI,if_neg (by omega),if_neg (by omega)]
abbrev gI (l:List Int)(m:List Int):Prop:=Cn 221 [.one (.sl 3 1 (l.map intD)),.one (.sl 3 1 (m.map intD))] (vI (cI l m)) []
theorem kG (l m:List Int):gI l m:=by
 refine cq Tryz.func221 (.loop Nat (Q1 Nat) (rg 5 31) [] (fun k=>[(5,vI (k:Int))]) (fun k=>[]) (fun k=>(k<=l.length/\k<=m.length)/\cI (l.drop k) (m.drop k)=cI l m) (fun k=>l.length - k) (fun k=> .len l.length<| .br (.len m.length<| .lit<| .lit<| .br (.elem _ intD l (fun e20=> .elem _ intD m (fun e24=> .br (.fin []) (.elem _ intD l (fun e29=> .elem _ intD m (fun e33=> .br (.fin []) (.back []))))))) (.len l.length<| .len m.length<| .br (.fin []) (.len l.length<| .len m.length<| .br (.fin []) (.fin [])))) (.len l.length<| .len m.length<| .br (.fin []) (.len l.length<| .len m.length<| .br (.fin []) (.fin []))))) (p:=Lx (l.map intD)<| Lx (m.map intD)<| (∃(k:Nat),0=(k:Int)/\(k<=l.length/\k<=m.length)/\cI (l.drop k) (m.drop k)=cI l m)/\ ∀(k:Nat),((k<=l.length/\k<=m.length)/\cI (l.drop k) (m.drop k)=cI l m)->Lm intD l/\Br ((k:Int)<(l.length:Int)) (Lm intD m/\Br ((k:Int)<(m.length:Int)) (0<=(k:Int)/\Em intD l k fun e20=>0<=(k:Int)/\Em intD m k fun e24=>Br (e20<e24) ((-1:Int)=(cI l m)/\True) (0<=(k:Int)/\Em intD l k fun e29=>0<=(k:Int)/\Em intD m k fun e33=>Br (e33<e29) (1=(cI l m)/\True) (bK ((k:Int)+1)/\ ∃(k' :Nat),((k:Int)+1)=(k' :Int)/\((k' <=l.length/\k' <=m.length)/\cI (l.drop k') (m.drop k')=cI l m)/\l.length - k' <l.length - k))) (Lm intD l/\Lm intD m/\Br ((l.length:Int)<(m.length:Int)) ((-1:Int)=(cI l m)/\True) (Lm intD l/\Lm intD m/\Br ((m.length:Int)<(l.length:Int)) (1=(cI l m)/\True) (0=(cI l m)/\True)))) (Lm intD l/\Lm intD m/\Br ((l.length:Int)<(m.length:Int)) ((-1:Int)=(cI l m)/\True) (Lm intD l/\Lm intD m/\Br ((m.length:Int)<(l.length:Int)) (1=(cI l m)/\True) (0=(cI l m)/\True)))) (by kernel_rfl) ?_;refine lx fun n0=>lx fun n1=>?_;refine⟨⟨0,rfl,⟨aDB _,aDB _⟩,rfl⟩,fun k ⟨hk,hv⟩=>?_⟩;refine⟨aAH _,dd (fun g10=>?_) fun g10=>?_⟩
 ·refine⟨aAH _,dd (fun c0=>?_) fun c0=>?_⟩
  ·obtain⟨x,hx⟩:=cK (l:=l) (k:=k) (by omega);obtain⟨y,hy⟩:=cK (l:=m) (k:=k) (by omega);have hd:cI l m=if x<y then -1 else if y<x then 1 else cI (l.drop (k+1)) (m.drop (k+1)):=by rw[<-hv,nG hx,nG hy,cI]
   refine⟨by omega,rfl,by omega,fun e20 h20=>?_⟩;obtain rfl:=(aY hx h20).symm;refine⟨by omega,rfl,by omega,fun e24 h24=>?_⟩;obtain rfl:=(aY hy h24).symm;refine dd (fun c1=>?_) fun c1=>?_
   ·apply et1
    ·(rw[hd,if_pos c1];done)
   ·refine⟨by omega,rfl,by omega,fun e29 h29=>?_⟩;obtain rfl:=(aY hx h29).symm;refine⟨by omega,rfl,by omega,fun e33 h33=>?_⟩;obtain rfl:=(aY hy h33).symm;refine dd (fun c2=>?_) fun c2=>?_
    ·apply et1
     ·(rw[hd,if_neg c1,if_pos c2];done)
    ·refine⟨⟨by omega,by omega⟩,?_⟩;exact⟨k+1,rfl,⟨by omega,by rw[hd,if_neg c1,if_neg c2]⟩,by omega⟩
  ·refine⟨aAH _,aAH _,dd (fun c3=>?_) fun c3=>?_⟩
   ·apply et1
    ·(rw[<-hv,kZ hk (by omega),if_pos (by omega)];done)
   ·refine⟨aAH _,aAH _,dd (fun c4=>?_) fun c4=>?_⟩
    ·apply et1
     ·(rw[<-hv,kZ hk (by omega),if_neg (by omega),if_pos (by omega)];done)
    ·apply et1
     ·(rw[<-hv,kZ hk (by omega),if_neg (by omega),if_neg (by omega)];done)
 ·refine⟨aAH _,aAH _,dd (fun c3=>?_) fun c3=>?_⟩
  ·apply et1
   ·(rw[<-hv,kZ hk (by omega),if_pos (by omega)];done)
  ·refine⟨aAH _,aAH _,dd (fun c4=>?_) fun c4=>?_⟩
   ·apply et1
    ·(rw[<-hv,kZ hk (by omega),if_neg (by omega),if_pos (by omega)];done)
   ·apply et1
    ·(rw[<-hv,kZ hk (by omega),if_neg (by omega),if_neg (by omega)];done)
theorem bAS {x y:aI}(h1:x.columns=y.columns)(h2:x.values=y.values)(h3:x.counts=y.counts):x=y:=by
 obtain⟨a,b,c⟩:=x;obtain⟨d,e,f⟩:=y;simp at h1 h2 h3;subst h1 h2 h3;rfl
abbrev tS (a:aD)(b:aD):Prop:=Cn 179 [.agg [.str a.name,.int .i64 a.arity,.int .i64 a.rowCount,.sl 220 3 (a.groups.map aC)],.agg [.str b.name,.int .i64 b.arity,.int .i64 b.rowCount,.sl 220 3 (b.groups.map aC)]] (vB (decide (a=b))) []
theorem aEA (a b:aD)(ha:bD a<=1048576):tS a b:=by
 refine cq Tryz.func179 (.br (.fin []) (.lit<| .lit<| .lit<| .lit<| .lit<| .br (.fin []) (.lit<| .lit<| .lit<| .lit<| .lit<| .br (.fin []) (.len a.groups.length<| .len b.groups.length<| .lit<| .lit<| .br (.fin []) (.loop Nat (Q1 Nat) ([5,6,7,8]++rg 37 59) [600,700] (fun i=>[(5,vI (i:Int))]) (fun i=>[]) (fun i=>i<=a.groups.length/\a.groups.take i=b.groups.take i) (fun i=>a.groups.length - i) (fun i=> .len a.groups.length<| .br (.elem _ aC a.groups (fun e47=> .elem _ aC b.groups (fun e52=> .call (vI (cI e47.columns e52.columns)) []<| .br (.fin []) (.call (vI (cI e47.counts e52.counts)) []<| .lit<| .lit<| .br (.fin []) (.len e47.values.length<| .len e52.values.length<| .lit<| .lit<| .br (.fin []) (.loop Nat (Q1 Nat) ([8]++rg 77 19) [] (fun k=>[(8,vI (k:Int))]) (fun k=>[]) (fun k=>k<=e47.values.length/\e47.values.take k=e52.values.take k) (fun k=>e47.values.length - k) (fun k=> .len e47.values.length<| .br (.elem _ aE e47.values (fun e87=> .elem _ aE e52.values (fun e92=> .call (vI (cI e87 e92)) []<| .br (.fin []) (.back [])))) (.back [])))))))) (.fin []))))))) (p:=Lx (a.groups.map aC)<| Lx (b.groups.map aC)<| Nr (a.name.toList==b.name.toList) ((false)=(decide (a=b))/\True) (Nb (a.arity=b.arity) ((false)=(decide (a=b))/\True) (Nb (a.rowCount=b.rowCount) ((false)=(decide (a=b))/\True) (Lm aC a.groups/\(Lm aC b.groups/\Nb ((a.groups.length:Int)=(b.groups.length:Int)) ((false)=(decide (a=b))/\True) ((∃(i:Nat),0=(i:Int)/\i<=a.groups.length/\a.groups.take i=b.groups.take i)/\ ∀(i:Nat),(i<=a.groups.length/\a.groups.take i=b.groups.take i)->Lm aC a.groups/\Br ((i:Int)<(a.groups.length:Int)) (0<=(i:Int)/\Em aC a.groups i fun e47=>0<=(i:Int)/\Em aC b.groups i fun e52=>gI e47.columns e52.columns/\Nb ((cI e47.columns e52.columns)=0) ((false)=(decide (a=b))/\True) (gI e47.counts e52.counts/\Nb ((cI e47.counts e52.counts)=0) ((false)=(decide (a=b))/\True) (Lm aE e47.values/\(Lm aE e52.values/\Nb ((e47.values.length:Int)=(e52.values.length:Int)) ((false)=(decide (a=b))/\True) ((∃(k:Nat),0=(k:Int)/\k<=e47.values.length/\e47.values.take k=e52.values.take k)/\ ∀(k:Nat),(k<=e47.values.length/\e47.values.take k=e52.values.take k)->Lm aE e47.values/\Br ((k:Int)<(e47.values.length:Int)) (0<=(k:Int)/\Em aE e47.values k fun e87=>0<=(k:Int)/\Em aE e52.values k fun e92=>gI e87 e92/\Nb ((cI e87 e92)=0) ((false)=(decide (a=b))/\True) (bK ((k:Int)+1)/\ ∃(k' :Nat),((k:Int)+1)=(k' :Int)/\(k' <=e47.values.length/\e47.values.take k' =e52.values.take k')/\e47.values.length - k' <e47.values.length - k)) (bK ((i:Int)+1)/\ ∃(i' :Nat),((i:Int)+1)=(i' :Int)/\(i' <=a.groups.length/\a.groups.take i' =b.groups.take i')/\a.groups.length - i' <a.groups.length - i)))))) ((true)=(decide (a=b))/\True))))))) (by kernel_rfl) ?_;refine lx fun n0=>lx fun n1=>?_;refine dm (fun g14=>?_) fun g14=>?_
 ·apply et1
  ·(rw[iB];simp_all [qF];done)
 ·refine dn (fun g21=>?_) fun g21=>?_
  ·apply et1
   ·(rw[iB];simp_all [qF];done)
  ·refine dn (fun g28=>?_) fun g28=>?_
   ·apply et1
    ·(rw[iB];simp_all [qF];done)
   ·refine⟨aAH _,aAH _,dn (fun c0=>?_) fun c0=>?_⟩
    ·have hne: ¬a=b:=fun e=>c0 (by rw[e]);apply et1
     ·(simp[hne];done)
    ·have hl:a.groups.length=b.groups.length:=by omega
     refine⟨⟨0,rfl,aDB _,rfl⟩,fun i ⟨hi,ht⟩=>?_⟩;refine⟨aAH _,dd (fun c1=>?_) fun c1=>?_⟩
     ·refine⟨by omega,rfl,by omega,fun e47 h47=>?_⟩;have q1:=iP h47;have q2:bD a=a.name.size+dB a.groups:=rfl;have q3:bP e47=cD e47.columns+cM e47.values+cD e47.counts:=rfl;have q4:=fX e47.values;refine⟨by omega,rfl,by omega,fun e52 h52=>?_⟩;refine⟨kG _ _,dn (fun g60=>?_) fun g60=>?_⟩
      ·have hne: ¬a=b:=fun e=>by subst e;have q:=aY h47 h52;subst q;exact g60 (fG.2 rfl)
       apply et1
       ·(simp[hne];done)
      ·refine⟨kG _ _,dn (fun g68=>?_) fun g68=>?_⟩
       ·have hne: ¬a=b:=fun e=>by subst e;have q:=aY h47 h52;subst q;exact g68 (fG.2 rfl)
        apply et1
        ·(simp[hne];done)
       ·refine⟨aAH _,aAH _,dn (fun c2=>?_) fun c2=>?_⟩
        ·have hne: ¬a=b:=fun e=>by subst e;have q:=aY h47 h52;subst q;exact c2 rfl
         apply et1
         ·(simp[hne];done)
        ·refine⟨⟨0,rfl,aDB _,rfl⟩,fun k ⟨hk,hv⟩=>?_⟩;refine⟨aAH _,dd (fun c3=>?_) fun c3=>?_⟩
         ·refine⟨by omega,rfl,by omega,fun e87 h87=>?_⟩;refine⟨by omega,rfl,by omega,fun e92 h92=>?_⟩;refine⟨kG _ _,dn (fun c4=>?_) fun c4=>?_⟩
          ·have hne: ¬a=b:=fun e=>by subst e;have q:=aY h47 h52;subst q;have q:=aY h87 h92;subst q;exact c4 (fG.2 rfl)
           apply et1
           ·(simp[hne];done)
          ·refine⟨⟨by omega,by omega⟩,?_⟩;exact⟨k+1,rfl,⟨by omega,oQ h87 (by rw[h92,fG.1 c4]) hv⟩,by omega⟩
         ·have hxy:e52=e47:=(bAS (fG.1 g60) (oR (by omega) (by omega) hv) (fG.1 g68)).symm;refine⟨⟨by omega,by omega⟩,?_⟩;exact⟨i+1,rfl,⟨by omega,oQ h47 (by rw[h52,hxy]) ht⟩,by omega⟩
     ·have hg:=oR (by omega) hl ht;apply et1
      ·(rw[iB];simp_all [qF];done)
abbrev aEB (a:cA)(b:cA):Prop:=Cn 123 [.agg [.int .i64 a.version,.sl 88 4 (a.tables.map aF)],.agg [.int .i64 b.version,.sl 88 4 (b.tables.map aF)]] (vB (decide (a=b))) []
theorem aQ9 (a b:cA)(ha:bS a<=1048576):aEB a b:=by
 refine cq Tryz.func123 (.br (.fin []) (.len a.tables.length<| .len b.tables.length<| .lit<| .lit<| .br (.fin []) (.loop Nat (Q1 Nat) ([5]++rg 20 19) [] (fun k=>[(5,vI (k:Int))]) (fun k=>[]) (fun k=>k<=a.tables.length/\a.tables.take k=b.tables.take k) (fun k=>a.tables.length - k) (fun k=> .len a.tables.length<| .br (.elem _ aF a.tables (fun e30=> .elem _ aF b.tables (fun e35=> .call (vB (decide (e30=e35))) []<| .br (.fin []) (.back [])))) (.fin []))))) (p:=Lx (a.tables.map aF)<| Lx (b.tables.map aF)<| Nb (a.version=b.version) ((false)=(decide (a=b))/\True) (Lm aF a.tables/\(Lm aF b.tables/\Nb ((a.tables.length:Int)=(b.tables.length:Int)) ((false)=(decide (a=b))/\True) ((∃(k:Nat),0=(k:Int)/\k<=a.tables.length/\a.tables.take k=b.tables.take k)/\ ∀(k:Nat),(k<=a.tables.length/\a.tables.take k=b.tables.take k)->Lm aF a.tables/\Br ((k:Int)<(a.tables.length:Int)) (0<=(k:Int)/\Em aF a.tables k fun e30=>0<=(k:Int)/\Em aF b.tables k fun e35=>tS e30 e35/\Nb (e30=e35) ((false)=(decide (a=b))/\True) (bK ((k:Int)+1)/\ ∃(k' :Nat),((k:Int)+1)=(k' :Int)/\(k' <=a.tables.length/\a.tables.take k' =b.tables.take k')/\a.tables.length - k' <a.tables.length - k)) ((true)=(decide (a=b))/\True))))) (by kernel_rfl) ?_;refine lx fun n0=>lx fun n1=>?_;have hS:bS a=dM a.tables:=rfl;refine dn (fun g11=>?_) fun g11=>?_
 ·apply et1
  ·(rw[rA];simp_all;done)
 ·refine⟨aAH _,aAH _,dn (fun c0=>?_) fun c0=>?_⟩
  ·have hne: ¬a=b:=fun e=>c0 (by rw[e]);apply et1
   ·(simp[hne];done)
  ·have hl:a.tables.length=b.tables.length:=by omega
   refine⟨⟨0,rfl,aDB _,rfl⟩,fun k ⟨hk,ht⟩=>?_⟩;refine⟨aAH _,dd (fun c1=>?_) fun c1=>?_⟩
   ·refine⟨by omega,rfl,by omega,fun e30 h30=>?_⟩;refine⟨by omega,rfl,by omega,fun e35 h35=>?_⟩;refine⟨aEA _ _ (by have:=lX h30;omega),dn (fun c2=>?_) fun c2=>?_⟩
    ·have hne: ¬a=b:=fun e=>by subst e;exact c2 (aY h35 h30)
     apply et1
     ·(simp[hne];done)
    ·refine⟨⟨by omega,by omega⟩,?_⟩;exact⟨k+1,rfl,⟨by omega,oQ h30 (by rw[h35,c2]) ht⟩,by omega⟩
   ·have hg:=oR (by omega) hl ht;apply et1
    ·(rw[rA];simp_all;done)
abbrev fH (n:Int)(a:Int)(b:Int):Prop:=Cn 83 [.one (.int .i64 n),.one (.int .i64 a),.one (.int .i64 b)] (vB (eQ n a b)) []
theorem jT (n a b:Int):fH n a b:=by
 refine cq Tryz.func83 (.br (.fin []) (.fin [])) (p:=Br (a<=n) ((decide (n<=b))=(eQ n a b)/\True) ((false)=(eQ n a b)/\True)) (by kernel_rfl) ?_;refine dd (fun g10=>?_) fun g10=>?_
 ·apply et1
  ·(simp[eQ,g10];done)
 ·apply et1
  ·(simp[eQ,g10];done)
abbrev fI (n:Int)(a:Int)(b:Int):Prop:=Cn 74 [.one (.int .i64 n),.one (.int .i64 a),.one (.int .i64 b)] (vB (eQ n a b)) []
theorem jU (n a b:Int):fI n a b:=by
 refine cq Tryz.func74 (.br (.fin []) (.fin [])) (p:=Br (a<=n) ((decide (n<=b))=(eQ n a b)/\True) ((false)=(eQ n a b)/\True)) (by kernel_rfl) ?_;refine dd (fun g10=>?_) fun g10=>?_
 ·apply et1
  ·(simp[eQ,g10];done)
 ·apply et1
  ·(simp[eQ,g10];done)
def aEC (v:Int):Bool:=eQ v 0 9
def lA (n:Int)(r:List Int):Bool:=r.all aEC&&decide ((r.length:Int)=n)
def gZ (s:ByteArray):Bool:=decide ((s.size:Int)=1)&&(decide (97<=yA s 0)&&decide (yA s 0<=122))
abbrev aIE (r:List Int)(n:Int):Prop:=Cn 237 [.one (.sl 3 1 (r.map intD)),.one (.int .i64 n)] (vB (lA n r)) []
theorem aV6 (r:List Int)(n:Int):aIE r n:=by
 refine cq Tryz.func237 (.len r.length<| .loop Nat (Q1 Nat) ([6]++rg 9 8) [] (fun k=>[(9,vI (k:Int))]) (fun k=>[]) (fun k=>k<=r.length/\(r.take k).all aEC=true) (fun k=>r.length - k) (fun k=> .br (.elem _ intD r (fun e11=> .call (vB (eQ e11 (0:Int) (9:Int))) []<| .br (.fin []) (.back []))) (.len r.length<| .fin []))) (p:=Lx (r.map intD)<| Lm intD r/\((∃(k:Nat),0=(k:Int)/\k<=r.length/\(r.take k).all aEC=true)/\ ∀(k:Nat),(k<=r.length/\(r.take k).all aEC=true)->Br ((k:Int)<(r.length:Int)) (0<=(k:Int)/\Em intD r k fun e11=>fH e11 (0:Int) (9:Int)/\Nr (eQ e11 (0:Int) (9:Int)) ((false)=(lA n r)/\True) (bK ((k:Int)+1)/\ ∃(k' :Nat),((k:Int)+1)=(k' :Int)/\(k' <=r.length/\(r.take k').all aEC=true)/\r.length - k' <r.length - k)) (Lm intD r/\(decide ((r.length:Int)=n))=(lA n r)/\True))) (by kernel_rfl) ?_;refine lx fun n0=>?_;refine⟨aAH _,⟨0,rfl,aDB _,rfl⟩,fun k ⟨hk,ha⟩=>?_⟩;refine dd (fun c0=>?_) fun c0=>?_
 ·refine⟨by omega,rfl,by omega,fun e11 h11=>?_⟩;refine⟨jT _ _ _,dm (fun c1=>?_) fun c1=>?_⟩
  ·apply et1
   ·(rw[lA,eX h11 c1];rfl)
  ·refine⟨⟨by omega,by omega⟩,?_⟩;exact⟨k+1,rfl,⟨by omega,cO h11 ha c1⟩,by omega⟩
 ·refine⟨aAH _,?_,trivial⟩
  ·(rw[lA,dJ (by omega) ha];simp)
abbrev aIF (r:List Int)(n:Int):Prop:=Cn 242 [.one (.sl 3 1 (r.map intD)),.one (.int .i64 n)] (vB (lA n r)) []
theorem aV7 (r:List Int)(n:Int):aIF r n:=by
 refine cq Tryz.func242 (.loop Nat (Q1 Nat) (rg 5 13) [] (fun k=>[(5,vI (k:Int))]) (fun k=>[]) (fun k=>k<=r.length/\(r.take k).all aEC=true) (fun k=>r.length - k) (fun k=> .len r.length<| .br (.elem _ intD r (fun e14=> .call (vB (eQ e14 (0:Int) (9:Int))) []<| .br (.fin []) (.back []))) (.len r.length<| .fin []))) (p:=Lx (r.map intD)<| (∃(k:Nat),0=(k:Int)/\k<=r.length/\(r.take k).all aEC=true)/\ ∀(k:Nat),(k<=r.length/\(r.take k).all aEC=true)->Lm intD r/\Br ((k:Int)<(r.length:Int)) (0<=(k:Int)/\Em intD r k fun e14=>fI e14 (0:Int) (9:Int)/\Nr (eQ e14 (0:Int) (9:Int)) ((false)=(lA n r)/\True) (bK ((k:Int)+1)/\ ∃(k' :Nat),((k:Int)+1)=(k' :Int)/\(k' <=r.length/\(r.take k').all aEC=true)/\r.length - k' <r.length - k)) (Lm intD r/\(decide ((r.length:Int)=n))=(lA n r)/\True)) (by kernel_rfl) ?_;refine lx fun n0=>?_;refine⟨⟨0,rfl,aDB _,rfl⟩,fun k ⟨hk,ha⟩=>?_⟩;refine⟨aAH _,dd (fun c0=>?_) fun c0=>?_⟩
 ·refine⟨by omega,rfl,by omega,fun e14 h14=>?_⟩;refine⟨jU _ _ _,dm (fun c1=>?_) fun c1=>?_⟩
  ·apply et1
   ·(rw[lA,eX h14 c1];rfl)
  ·refine⟨⟨by omega,by omega⟩,?_⟩;exact⟨k+1,rfl,⟨by omega,cO h14 ha c1⟩,by omega⟩
 ·refine⟨aAH _,?_,trivial⟩
  ·(rw[lA,dJ (by omega) ha];simp)
abbrev aAd (s:ByteArray):Prop:=Cn 191 [.one (.str s)] (vB (gZ s)) []
theorem aL8 (s:ByteArray):aAd s:=by
 refine cq Tryz.func191 (.br (.lit<| .lit<| .lit<| .br (.fin []) (.fin [])) (.fin [])) (p:=Br ((s.size:Int)=1) (0<=(0:Int)/\0<(s.size:Int)/\Br (97<=(yA s 0)) (0<=(0:Int)/\0<(s.size:Int)/\(decide ((yA s 0)<=122))=(gZ s)/\True) ((false)=(gZ s)/\True)) ((false)=(gZ s)/\True)) (by kernel_rfl) ?_;refine dd (fun g6=>?_) fun g6=>?_
 ·refine⟨by omega,by omega,dd (fun g11=>?_) fun g11=>?_⟩
  ·refine⟨by omega,by omega,?_,trivial⟩
   ·(simp[gZ,g6,g11];done)
  ·apply et1
   ·(simp[gZ,g6,g11];done)
 ·apply et1
  ·(simp[gZ,g6];done)
abbrev aAe (s:ByteArray):Prop:=Cn 182 [.one (.str s)] (vB (gZ s)) []
theorem aL9 (s:ByteArray):aAe s:=by
 refine cq Tryz.func182 (.br (.lit<| .lit<| .lit<| .br (.fin []) (.fin [])) (.fin [])) (p:=Br ((s.size:Int)=1) (0<=(0:Int)/\0<(s.size:Int)/\Br (97<=(yA s 0)) (0<=(0:Int)/\0<(s.size:Int)/\(decide ((yA s 0)<=122))=(gZ s)/\True) ((false)=(gZ s)/\True)) ((false)=(gZ s)/\True)) (by kernel_rfl) ?_;refine dd (fun g6=>?_) fun g6=>?_
 ·refine⟨by omega,by omega,dd (fun g11=>?_) fun g11=>?_⟩
  ·refine⟨by omega,by omega,?_,trivial⟩
   ·(simp[gZ,g6,g11];done)
  ·apply et1
   ·(simp[gZ,g6,g11];done)
 ·apply et1
  ·(simp[gZ,g6];done)
abbrev aFF (n:Int):Prop:=Cn 291 [.one (.int .i64 n)] (vB false) []
theorem aRv (n:Int):aFF n:=by
 refine cq Tryz.func291 (.fin []) (p:=(!(decide (n=n)))=false/\True) (by kernel_rfl) ?_;apply et1
 ·simp
def wA (a b:Int):Int:=if a<b then -1 else if b<a then 1 else 0
abbrev aLa (a:Int)(b:Int):Prop:=Cn 277 [.one (.int .i64 a),.one (.int .i64 b)] (vI (wA a b)) []
theorem aYX (a b:Int):aLa a b:=by
 refine cq Tryz.func277 (.call (vB false) []<| .call (vB false) []<| .lit<| .lit<| .br (.fin []) (.br (.fin []) (.fin []))) (p:=aFF a/\aFF b/\Br (a<b) ((-1:Int)=(wA a b)/\True) (Br (b<a) (1=(wA a b)/\True) (0=(wA a b)/\True))) (by kernel_rfl) ?_;refine⟨aRv _,aRv _,dd (fun c3=>?_) fun c3=>?_⟩
 ·apply et1
  ·simp[wA, *];try omega
 ·refine dd (fun c4=>?_) fun c4=>?_
  ·apply et1
   ·simp[wA, *];try omega
  ·apply et1
   ·simp[wA, *];try omega
theorem aLb (a b:Int)(l m:List Int):cI (a::l) (b::m)=if wA a b=0 then cI l m else wA a b:=by
 unfold wA;rw[cI];by_cases h1:a<b
 ·simp[h1]
 by_cases h2:b<a
 ·simp[h1,h2]
 simp[h1,h2]
abbrev aV8 (l:List Int)(m:List Int):Prop:=Cn 262 [.one (.sl 3 1 (l.map intD)),.one (.sl 3 1 (m.map intD))] (vI (cI l m)) []
theorem bBR (l m:List Int):aV8 l m:=by
 refine cq Tryz.func262 (.len l.length<| .loop Nat (Q1 Nat) ([5,6,7,8]++rg 11 18++[30]) [] (fun k=>[(11,vI (k:Int))]) (fun k=>[]) (fun k=>(k<=l.length/\k<=m.length)/\cI (l.drop k) (m.drop k)=cI l m) (fun k=>l.length - k) (fun k=> .br (.elem _ intD l (fun e14=> .len m.length<| .br (.fin []) (.elem _ intD m (fun e22=> .call (vI (wA e14 e22)) []<| .br (.fin []) (.back []))))) (.len l.length<| .len m.length<| .br (.fin []) (.fin [])))) (p:=Lx (l.map intD)<| Lx (m.map intD)<| Lm intD l/\((∃(k:Nat),0=(k:Int)/\(k<=l.length/\k<=m.length)/\cI (l.drop k) (m.drop k)=cI l m)/\ ∀(k:Nat),((k<=l.length/\k<=m.length)/\cI (l.drop k) (m.drop k)=cI l m)->Br ((k:Int)<(l.length:Int)) (0<=(k:Int)/\Em intD l k fun e14=>Lm intD m/\Br ((m.length:Int)<=(k:Int)) (1=(cI l m)/\True) (0<=(k:Int)/\Em intD m k fun e22=>aLa e14 e22/\Nb ((wA e14 e22)=0) ((wA e14 e22)=(cI l m)/\True) (bK ((k:Int)+1)/\ ∃(k' :Nat),((k:Int)+1)=(k' :Int)/\((k' <=l.length/\k' <=m.length)/\cI (l.drop k') (m.drop k')=cI l m)/\l.length - k' <l.length - k))) (Lm intD l/\Lm intD m/\Br ((l.length:Int)<(m.length:Int)) ((-1:Int)=(cI l m)/\True) (0=(cI l m)/\True)))) (by kernel_rfl) ?_;refine lx fun n0=>lx fun n1=>?_;refine⟨aAH _,⟨0,rfl,⟨aDB _,aDB _⟩,rfl⟩,fun k ⟨hk,hv⟩=>?_⟩;refine dd (fun c0=>?_) fun c0=>?_
 ·obtain⟨x,hx⟩:=cK (l:=l) (k:=k) (by omega);refine⟨by omega,rfl,by omega,fun e14 h14=>?_⟩;obtain rfl:=(aY hx h14).symm;refine⟨aAH _,dd (fun c1=>?_) fun c1=>?_⟩
  ·apply et1
   ·(rw[<-hv,kZ hk (by omega),if_neg (by omega),if_pos (by omega)];done)
  ·obtain⟨y,hy⟩:=cK (l:=m) (k:=k) (by omega);have hd:cI l m=if wA x y=0 then cI (l.drop (k+1)) (m.drop (k+1)) else wA x y:=by rw[<-hv,nG hx,nG hy,aLb]
   refine⟨by omega,rfl,by omega,fun e22 h22=>?_⟩;obtain rfl:=(aY hy h22).symm;refine⟨aYX _ _,dn (fun c2=>?_) fun c2=>?_⟩
   ·apply et1
    ·(rw[hd,if_neg c2];done)
   ·refine⟨⟨by omega,by omega⟩,?_⟩;exact⟨k+1,rfl,⟨by omega,by rw[hd,if_pos c2]⟩,by omega⟩
 ·refine⟨aAH _,aAH _,dd (fun c3=>?_) fun c3=>?_⟩
  ·apply et1
   ·(rw[<-hv,kZ hk (by omega),if_pos (by omega)];done)
  ·apply et1
   ·(rw[<-hv,kZ hk (by omega),if_neg (by omega),if_neg (by omega)];done)
abbrev aAf (l:List Int)(m:List Int):Prop:=Cn 252 [.one (.sl 3 1 (l.map intD)),.one (.sl 3 1 (m.map intD))] (vI (cI l m)) []
theorem aNF (l m:List Int):aAf l m:=by
 refine cq Tryz.func252 (.call (vI (cI l m)) []<| .fin []) (p:=Lx (l.map intD)<| Lx (m.map intD)<| aV8 l m/\(cI l m)=(cI l m)/\True) (by kernel_rfl) ?_;refine lx fun n0=>lx fun n1=>?_;refine⟨bBR _ _,?_⟩;exact⟨rfl,trivial⟩
def nS (l:List (List Int))(i:Nat):Bool:=decide (cI (l.getD i []) (l.getD (i+1) [])<0)
def aFG (l:List (List Int)):Bool:=(List.range (l.length - 1)).all (nS l)
def aZ (t:aV):Bool:=t.rows.all (lA t.arity)&&(gZ t.name&&(eQ t.arity 1 3&&(decide ((t.rows.length:Int)<=8)&&aFG t.rows)))
theorem kR {p:Nat->Bool}{k:Nat}(h:(List.range k).all p=true)(hk:p k=true):(List.range (k+1)).all p=true:=by
 rw[List.range_succ,List.all_append,h];simp[hk]
theorem iQ {p:Nat->Bool}{n k:Nat}(hk:k<n)(h:p k=false):(List.range n).all p=false:=by
 rw[List.all_eq_false];exact⟨k,aR2.2 hk,by simp[h]⟩
theorem bO {α:Type}{l:List α}{k:Nat}{x y:α}(h:l[k]? =some x):l.getD k y=x:=by simp[aKU,h]
abbrev aIG (l:List (List Int)):Prop:=Cn 238 [.one (.sl 91 1 (l.map aE))] (vB (aFG l)) []
theorem aV9 (l:List (List Int)):aIG l:=by
 refine cq Tryz.func238 (.loop Nat (Q1 Nat) (rg 3 18) [] (fun k=>[(3,vI ((k:Int)+1))]) (fun k=>[]) (fun k=>(k+1<=l.length\/k=0)/\(List.range k).all (nS l)=true) (fun k=>l.length - k) (fun k=> .len l.length<| .br (.elem _ aE l (fun e13=> .elem _ aE l (fun e17=> .call (vI (cI e13 e17)) []<| .br (.fin []) (.back [])))) (.fin []))) (p:=Lx (l.map aE)<| (∃(k:Nat),1=((k:Int)+1)/\(k+1<=l.length\/k=0)/\(List.range k).all (nS l)=true)/\ ∀(k:Nat),((k+1<=l.length\/k=0)/\(List.range k).all (nS l)=true)->Lm aE l/\Br (((k:Int)+1)<(l.length:Int)) (bK (((k:Int)+1) - 1)/\0<=(((k:Int)+1) - 1)/\Em aE l ((((k:Int)+1) - 1).toNat) fun e13=>0<=((k:Int)+1)/\Em aE l (k+1) fun e17=>aAf e13 e17/\Br (0<=(cI e13 e17)) ((false)=(aFG l)/\True) (bK (((k:Int)+1)+1)/\ ∃(k' :Nat),(((k:Int)+1)+1)=(((k' :Nat):Int)+1)/\((k' +1<=l.length\/k' =0)/\(List.range k').all (nS l)=true)/\l.length - k' <l.length - k)) ((true)=(aFG l)/\True)) (by kernel_rfl) ?_;refine lx fun n0=>?_;refine⟨⟨0,rfl,.inr rfl,rfl⟩,fun k ⟨hk,ha⟩=>?_⟩;refine⟨aAH _,dd (fun c0=>?_) fun c0=>?_⟩
 ·refine⟨⟨by omega,by omega⟩,by omega,rfl,by omega,fun e13 h13=>?_⟩;have i13:l[k]? =some e13:=by rw[<-h13];congr 1;omega
  refine⟨by omega,rfl,by omega,fun e17 h17=>?_⟩;refine⟨aNF _ _,dd (fun c1=>?_) fun c1=>?_⟩
  ·have hp:nS l k=false:=by rw[nS,bO i13,bO h17];simp;omega
   apply et1
   ·(rw[aFG,iQ (by omega) hp];done)
  ·have hp:nS l k=true:=by rw[nS,bO i13,bO h17];simp;omega
   refine⟨⟨by omega,by omega⟩,?_⟩;exact⟨k+1,rfl,⟨by omega,kR ha hp⟩,by omega⟩
 ·apply et1
  ·(rw[aFG,show l.length - 1=k by omega,ha];done)
abbrev tT (t:aV):Prop:=Cn 194 [.agg [.str t.name,.int .i64 t.arity,.sl 91 1 (t.rows.map aE)]] (vB (aZ t)) []
theorem aAg (t:aV):tT t:=by
 refine cq Tryz.func194 (.len t.rows.length<| .loop Nat (Q1 Nat) ([4]++rg 8 10) [] (fun k=>[(8,vI (k:Int))]) (fun k=>[]) (fun k=>k<=t.rows.length/\(t.rows.take k).all (lA t.arity)=true) (fun k=>t.rows.length - k) (fun k=> .br (.elem _ aE t.rows (fun e10=> .call (vB (lA t.arity e10)) []<| .br (.fin []) (.back []))) (.call (vB (gZ t.name)) []<| .br (.call (vB (eQ t.arity (1:Int) (3:Int))) []<| .lit<| .br (.len t.rows.length<| .lit<| .lit<| .br (.call (vB (aFG t.rows)) []<| .fin []) (.fin [])) (.fin [])) (.fin [])))) (p:=Lx (t.rows.map aE)<| Lm aE t.rows/\((∃(k:Nat),0=(k:Int)/\k<=t.rows.length/\(t.rows.take k).all (lA t.arity)=true)/\ ∀(k:Nat),(k<=t.rows.length/\(t.rows.take k).all (lA t.arity)=true)->Br ((k:Int)<(t.rows.length:Int)) (0<=(k:Int)/\Em aE t.rows k fun e10=>aIE e10 t.arity/\Nr (lA t.arity e10) ((false)=(aZ t)/\True) (bK ((k:Int)+1)/\ ∃(k' :Nat),((k:Int)+1)=(k' :Int)/\(k' <=t.rows.length/\(t.rows.take k').all (lA t.arity)=true)/\t.rows.length - k' <t.rows.length - k)) (aAd t.name/\Bb (gZ t.name) (fH t.arity (1:Int) (3:Int)/\Bb (eQ t.arity (1:Int) (3:Int)) (Lm aE t.rows/\Br ((t.rows.length:Int)<=8) (aIG t.rows/\(aFG t.rows)=(aZ t)/\True) ((false)=(aZ t)/\True)) ((false)=(aZ t)/\True)) ((false)=(aZ t)/\True)))) (by kernel_rfl) ?_;refine lx fun n0=>?_;refine⟨aAH _,⟨0,rfl,aDB _,rfl⟩,fun k ⟨hk,ha⟩=>?_⟩;refine dd (fun c0=>?_) fun c0=>?_
 ·refine⟨by omega,rfl,by omega,fun e10 h10=>?_⟩;refine⟨aV6 _ _,dm (fun c1=>?_) fun c1=>?_⟩
  ·apply et1
   ·(rw[aZ,eX h10 c1];rfl)
  ·refine⟨⟨by omega,by omega⟩,?_⟩;exact⟨k+1,rfl,⟨by omega,cO h10 ha c1⟩,by omega⟩
 ·have hall:=dJ (by omega) ha;refine⟨aL8 _,db (fun g21=>?_) fun g21=>?_⟩
  ·refine⟨jT _ _ _,db (fun g26=>?_) fun g26=>?_⟩
   ·refine⟨aAH _,dd (fun g32=>?_) fun g32=>?_⟩
    ·refine⟨aV9 _,?_,trivial⟩
     ·(simp[aZ,hall, *];done)
    ·apply et1
     ·(simp[aZ,hall, *];done)
   ·apply et1
    ·(simp[aZ,hall, *];done)
  ·apply et1
   ·(simp[aZ,hall, *];done)
abbrev qG (t:aV):Prop:=Cn 218 [.agg [.str t.name,.int .i64 t.arity,.sl 91 1 (t.rows.map aE)]] (vB (aZ t)) []
theorem aAh (t:aV):qG t:=by
 refine cq Tryz.func218 (.call (vB (gZ t.name)) []<| .br (.fin []) (.call (vB (eQ t.arity (1:Int) (3:Int))) []<| .lit<| .lit<| .br (.fin []) (.len t.rows.length<| .lit<| .lit<| .br (.fin []) (.loop Nat (Q1 Nat) ([3]++rg 20 35) [] (fun k=>[(3,vI (k:Int))]) (fun k=>[]) (fun k=>k<=t.rows.length/\(t.rows.take k).all (lA t.arity)=true/\(List.range (k - 1)).all (nS t.rows)=true) (fun k=>t.rows.length - k) (fun k=> .len t.rows.length<| .br (.elem _ aE t.rows (fun e30=> .call (vB (lA t.arity e30)) []<| .br (.fin []) (.lit<| .lit<| .br (.elem _ aE t.rows (fun e44=> .elem _ aE t.rows (fun e49=> .call (vI (cI e44 e49)) []<| .lit<| .lit<| .lit<| .lit<| .br (.fin []) (.back [])))) (.back [])))) (.fin [])))))) (p:=Lx (t.rows.map aE)<| aAe t.name/\Nr (gZ t.name) ((false)=(aZ t)/\True) (fI t.arity (1:Int) (3:Int)/\Nr (eQ t.arity (1:Int) (3:Int)) ((false)=(aZ t)/\True) (Lm aE t.rows/\Br (8<(t.rows.length:Int)) ((false)=(aZ t)/\True) ((∃(k:Nat),0=(k:Int)/\k<=t.rows.length/\(t.rows.take k).all (lA t.arity)=true/\(List.range (k - 1)).all (nS t.rows)=true)/\ ∀(k:Nat),(k<=t.rows.length/\(t.rows.take k).all (lA t.arity)=true/\(List.range (k - 1)).all (nS t.rows)=true)->Lm aE t.rows/\Br ((k:Int)<(t.rows.length:Int)) (0<=(k:Int)/\Em aE t.rows k fun e30=>aIF e30 t.arity/\Nr (lA t.arity e30) ((false)=(aZ t)/\True) (Br (0<(k:Int)) (bK ((k:Int) - 1)/\0<=((k:Int) - 1)/\Em aE t.rows (((k:Int) - 1).toNat) fun e44=>0<=(k:Int)/\Em aE t.rows k fun e49=>gI e44 e49/\Br (0<=(cI e44 e49)) ((false)=(aZ t)/\True) (bK ((k:Int)+1)/\ ∃(k' :Nat),((k:Int)+1)=(k' :Int)/\(k' <=t.rows.length/\(t.rows.take k').all (lA t.arity)=true/\(List.range (k' - 1)).all (nS t.rows)=true)/\t.rows.length - k' <t.rows.length - k)) (bK ((k:Int)+1)/\ ∃(k' :Nat),((k:Int)+1)=(k' :Int)/\(k' <=t.rows.length/\(t.rows.take k').all (lA t.arity)=true/\(List.range (k' - 1)).all (nS t.rows)=true)/\t.rows.length - k' <t.rows.length - k))) ((true)=(aZ t)/\True))))) (by kernel_rfl) ?_;refine lx fun n0=>?_;refine⟨aL9 _,dm (fun g8=>?_) fun g8=>?_⟩
 ·apply et1
  ·(simp[aZ, *];done)
 ·refine⟨jU _ _ _,dm (fun g14=>?_) fun g14=>?_⟩
  ·apply et1
   ·(simp[aZ, *];done)
  ·refine⟨aAH _,dd (fun c0=>?_) fun c0=>?_⟩
   ·have h8:decide ((t.rows.length:Int)<=8)=false:=by simp;omega
    apply et1
    ·(rw[aZ,h8];simp[*];done)
   ·have h8:decide ((t.rows.length:Int)<=8)=true:=by simp;omega
    refine⟨⟨0,rfl,aDB _,rfl,rfl⟩,fun k ⟨hk,ha,hs⟩=>?_⟩;refine⟨aAH _,dd (fun c1=>?_) fun c1=>?_⟩
    ·refine⟨by omega,rfl,by omega,fun e30 h30=>?_⟩;refine⟨aV7 _ _,dm (fun g36=>?_) fun g36=>?_⟩
     ·apply et1
      ·(rw[aZ,eX h30 g36];rfl)
     ·refine dd (fun g39=>?_) fun g39=>?_
      ·refine⟨⟨by omega,by omega⟩,by omega,rfl,by omega,fun e44 h44=>?_⟩;have i44:t.rows[k - 1]? =some e44:=by rw[<-h44];congr 1;omega
       refine⟨by omega,rfl,by omega,fun e49 h49=>?_⟩;refine⟨kG _ _,dd (fun c2=>?_) fun c2=>?_⟩
       ·have hp:nS t.rows (k - 1)=false:=by rw[nS,bO i44,show k - 1+1=k by omega,bO h49];simp;omega
        have hz:aFG t.rows=false:=iQ (by omega) hp;apply et1
        ·(rw[aZ,h8,hz];simp[*];done)
       ·have hp:nS t.rows (k - 1)=true:=by rw[nS,bO i44,show k - 1+1=k by omega,bO h49];simp;omega
        have hs2:(List.range (k+1 - 1)).all (nS t.rows)=true:=by rw[show k+1 - 1=(k - 1)+1 by omega];exact kR hs hp
        refine⟨⟨by omega,by omega⟩,?_⟩;exact⟨k+1,rfl,⟨by omega,cO h30 ha g36,hs2⟩,by omega⟩
      ·have hs2:(List.range (k+1 - 1)).all (nS t.rows)=true:=by rw[show k=0 by omega];rfl
       refine⟨⟨by omega,by omega⟩,?_⟩;exact⟨k+1,rfl,⟨by omega,cO h30 ha g36,hs2⟩,by omega⟩
    ·have hall:=dJ (by omega) ha;have hz:aFG t.rows=true:=by rw[aFG,show t.rows.length - 1=k - 1 by omega,hs]
     apply et1
     ·(rw[aZ,h8,hz];simp[*];done)
def aO7 (n:Int)(cols:List Int):Bool:=cols.all fun c=>eQ c 0 (n - 1)
def vF (r:List Int)(c:Int):Int:=r.getD c.toNat 0
def gB (r cols:List Int):List Int × Bool:=if aO7 r.length cols=true then (cols.map (vF r),true) else ([],false)
theorem aED {r cols:List Int}(h:cols.all (fun c=>eQ c 0 ((r.length:Int) - 1))=true):gB r cols=(cols.map (vF r),true):=by rw[gB,if_pos (show aO7 _ _=true from h)]
theorem aRw {r cols:List Int}(h:cols.all (fun c=>eQ c 0 ((r.length:Int) - 1))=false):gB r cols=([],false):=by rw[gB,if_neg (by rw[show aO7 _ _=false from h];decide)]
theorem aO8 {r:List Int}{c x:Int}(h:r[c.toNat]? =some x):vF r c=x:=bO h
theorem aIH (r cols:List Int):(gB r cols).1.length<=cols.length:=by
 unfold gB;split<;>simp
def jM (b:Int)(cols:List Int)(i:Nat):Bool:=eQ (cols.getD i 0) 0 b&&(decide (i=0) || decide (cols.getD (i - 1) 0<cols.getD i 0))
def eG (b:Int)(cols:List Int):Bool:=(List.range cols.length).all (jM b cols)
abbrev qH (r:List Int)(cols:List Int):AV × List (Nat × Rs):=(.tup [.own 0,vB ((gB r cols).2)],[(0,.arr 3 1 true ((gB r cols).1.map intD))])
abbrev tU (r:List Int)(cols:List Int):Prop:=Cn 207 [.one (.sl 3 1 (r.map intD)),.one (.sl 3 1 (cols.map intD))] (qH r cols).1 (qH r cols).2
theorem aEE (r cols:List Int)(hl:cols.length<=1048576):tU r cols:=by
 refine cq Tryz.func207 (.len cols.length<| .loop (Nat × (List Int)) (Q2 Nat (List Int)) ([6,8,9]++rg 12 18) [900,2700,2800] (fun yy0=>[(12,vI (yy0.1:Int)),(6,.own 900)]) (fun yy0=>[(900,some (.arr 3 1 true (yy0.2.map intD)))]) (fun yy0=>yy0.1<=cols.length/\yy0.2=(cols.take yy0.1).map (vF r)/\(cols.take yy0.1).all (fun c=>eQ c 0 ((r.length:Int) - 1))=true) (fun yy0=>cols.length - yy0.1) (fun yy0=> .br (.elem _ intD cols (fun e14=> .len r.length<| .call (vB (eQ e14 (0:Int) ((r.length:Int) - 1))) []<| .br (.fin []) (.elem _ intD r (fun e25=> .app Int intD yy0.2 ([e25]:List Int)<| .back [(900,2800)])))) (.fin [(0,900)]))) (p:=Lx (r.map intD)<| Lx (cols.map intD)<| Lm intD cols/\((∃(k:Nat) (out:List Int),0=(k:Int)/\[]=out.map intD/\k<=cols.length/\out=(cols.take k).map (vF r)/\(cols.take k).all (fun c=>eQ c 0 ((r.length:Int) - 1))=true)/\ ∀(k:Nat) (out:List Int),(k<=cols.length/\out=(cols.take k).map (vF r)/\(cols.take k).all (fun c=>eQ c 0 ((r.length:Int) - 1))=true)->Br ((k:Int)<(cols.length:Int)) (0<=(k:Int)/\Em intD cols k fun e14=>Lm intD r/\bK ((r.length:Int) - 1)/\fH e14 (0:Int) ((r.length:Int) - 1)/\Nr (eQ e14 (0:Int) ((r.length:Int) - 1)) ((false)=((gB r cols).2)/\[]=(gB r cols).1.map intD/\True) (0<=e14/\Em intD r ((e14).toNat) fun e25=>Ap intD out ([e25]:List Int) 8 (bK ((k:Int)+1)/\ ∃(k' :Nat) (out' :List Int),((k:Int)+1)=(k' :Int)/\(out++[e25]).map intD=out'.map intD/\(k' <=cols.length/\out' =(cols.take k').map (vF r)/\(cols.take k').all (fun c=>eQ c 0 ((r.length:Int) - 1))=true)/\cols.length - k' <cols.length - k))) ((true)=((gB r cols).2)/\out.map intD=(gB r cols).1.map intD/\True))) (by kernel_rfl) ?_;refine lx fun n0=>lx fun n1=>?_;refine⟨aAH _,⟨0,([]:List Int),rfl,rfl,aDB _,rfl,rfl⟩,fun k out ⟨hk,ho,ha⟩=>?_⟩;refine dd (fun c0=>?_) fun c0=>?_
 ·refine⟨by omega,rfl,by omega,fun e14 h14=>?_⟩;refine⟨aAH _,⟨by omega,by omega⟩,jT _ _ _,dm (fun c1=>?_) fun c1=>?_⟩
  ·apply et2<;>((rw[aRw (eX h14 c1)]<;>rfl))
  ·have hb:=eN c1;refine⟨by omega,rfl,by omega,fun e25 h25=>?_⟩;refine ap ?_ (fun _=>rfl) (by simp[ho];omega);refine⟨⟨by omega,by omega⟩,?_⟩;exact⟨k+1,_,rfl,rfl,⟨by omega,by rw[ho,bT h14,aMQ,aLz,List.map_nil,aO8 h25],cO h14 ha c1⟩,by omega⟩
 ·apply et2<;>(first|(rw[aED (dJ (by omega) ha),ho,aGT (by omega)]<;>rfl)|(rw[aED (dJ (by omega) ha)]<;>rfl))
abbrev qI (r:List Int)(cols:List Int):AV × List (Nat × Rs):=(.tup [.own 0,vB ((gB r cols).2)],[(0,.arr 3 1 true ((gB r cols).1.map intD))])
abbrev tV (r:List Int)(cols:List Int):Prop:=Cn 244 [.one (.sl 3 1 (r.map intD)),.one (.sl 3 1 (cols.map intD))] (qI r cols).1 (qI r cols).2
theorem aEF (r cols:List Int)(hl:cols.length<=1048576):tV r cols:=by
 refine cq Tryz.func244 (.loop (Nat × (List Int)) (Q2 Nat (List Int)) (rg 6 18++rg 25 10) [800,3300,3400] (fun yy0=>[(7,vI (yy0.1:Int)),(6,.own 800)]) (fun yy0=>[(800,some (.arr 3 1 true (yy0.2.map intD)))]) (fun yy0=>yy0.1<=cols.length/\yy0.2=(cols.take yy0.1).map (vF r)/\(cols.take yy0.1).all (fun c=>eQ c 0 ((r.length:Int) - 1))=true) (fun yy0=>cols.length - yy0.1) (fun yy0=> .len cols.length<| .br (.elem _ intD cols (fun e17=> .len r.length<| .call (vB (eQ e17 (0:Int) ((r.length:Int) - 1))) []<| .br (.fin [(0,2400)]) (.elem _ intD cols (fun e29=> .elem _ intD r (fun e31=> .app Int intD yy0.2 ([e31]:List Int)<| .back [(800,3400)]))))) (.fin [(0,800)]))) (p:=Lx (r.map intD)<| Lx (cols.map intD)<| (∃(k:Nat) (out:List Int),0=(k:Int)/\[]=out.map intD/\k<=cols.length/\out=(cols.take k).map (vF r)/\(cols.take k).all (fun c=>eQ c 0 ((r.length:Int) - 1))=true)/\ ∀(k:Nat) (out:List Int),(k<=cols.length/\out=(cols.take k).map (vF r)/\(cols.take k).all (fun c=>eQ c 0 ((r.length:Int) - 1))=true)->Lm intD cols/\Br ((k:Int)<(cols.length:Int)) (0<=(k:Int)/\Em intD cols k fun e17=>Lm intD r/\bK ((r.length:Int) - 1)/\fI e17 (0:Int) ((r.length:Int) - 1)/\Nr (eQ e17 (0:Int) ((r.length:Int) - 1)) ((false)=((gB r cols).2)/\[]=(gB r cols).1.map intD/\True) (0<=(k:Int)/\Em intD cols k fun e29=>0<=e29/\Em intD r ((e29).toNat) fun e31=>Ap intD out ([e31]:List Int) 8 (bK ((k:Int)+1)/\ ∃(k' :Nat) (out' :List Int),((k:Int)+1)=(k' :Int)/\(out++[e31]).map intD=out'.map intD/\(k' <=cols.length/\out' =(cols.take k').map (vF r)/\(cols.take k').all (fun c=>eQ c 0 ((r.length:Int) - 1))=true)/\cols.length - k' <cols.length - k))) ((true)=((gB r cols).2)/\out.map intD=(gB r cols).1.map intD/\True)) (by kernel_rfl) ?_;refine lx fun n0=>lx fun n1=>?_;refine⟨⟨0,([]:List Int),rfl,rfl,aDB _,rfl,rfl⟩,fun k out ⟨hk,ho,ha⟩=>?_⟩;refine⟨aAH _,dd (fun c0=>?_) fun c0=>?_⟩
 ·refine⟨by omega,rfl,by omega,fun e17 h17=>?_⟩;refine⟨aAH _,⟨by omega,by omega⟩,jU _ _ _,dm (fun c1=>?_) fun c1=>?_⟩
  ·apply et2<;>((rw[aRw (eX h17 c1)]<;>rfl))
  ·have hb:=eN c1;refine⟨by omega,rfl,by omega,fun e29 h29=>?_⟩;obtain rfl:=(aY h17 h29).symm;refine⟨by omega,rfl,by omega,fun e31 h31=>?_⟩;refine ap ?_ (fun _=>rfl) (by simp[ho];omega);refine⟨⟨by omega,by omega⟩,?_⟩;exact⟨k+1,_,rfl,rfl,⟨by omega,by rw[ho,bT h17,aMQ,aLz,List.map_nil,aO8 h31],cO h17 ha c1⟩,by omega⟩
 ·apply et2<;>(first|(rw[aED (dJ (by omega) ha),ho,aGT (by omega)]<;>rfl)|(rw[aED (dJ (by omega) ha)]<;>rfl))
abbrev aAi (cols:List Int)(a:Int):Prop:=Cn 246 [.one (.sl 3 1 (cols.map intD)),.one (.int .i64 a)] (vB (eG (a - 1) cols)) []
theorem aLc (cols:List Int)(a:Int)(ha:1<=a/\a<=3):aAi cols a:=by
 refine cq Tryz.func246 (.len cols.length<| .loop Nat (Q1 Nat) ([5,6]++rg 9 24) [] (fun k=>[(9,vI (k:Int))]) (fun k=>[]) (fun k=>k<=cols.length/\(List.range k).all (jM (a - 1) cols)=true) (fun k=>cols.length - k) (fun k=> .br (.elem _ intD cols (fun e12=> .call (vB (eQ e12 (0:Int) (a - 1))) []<| .br (.fin []) (.lit<| .lit<| .br (.elem _ intD cols (fun e26=> .lit<| .lit<| .lit<| .lit<| .lit<| .lit<| .br (.fin []) (.back []))) (.back [])))) (.fin []))) (p:=Lx (cols.map intD)<| Lm intD cols/\((∃(k:Nat),0=(k:Int)/\k<=cols.length/\(List.range k).all (jM (a - 1) cols)=true)/\ ∀(k:Nat),(k<=cols.length/\(List.range k).all (jM (a - 1) cols)=true)->Br ((k:Int)<(cols.length:Int)) (0<=(k:Int)/\Em intD cols k fun e12=>bK (a - 1)/\fH e12 (0:Int) (a - 1)/\Nr (eQ e12 (0:Int) (a - 1)) ((false)=(eG (a - 1) cols)/\True) (Br (0<(k:Int)) (bK ((k:Int) - 1)/\0<=((k:Int) - 1)/\Em intD cols (((k:Int) - 1).toNat) fun e26=>Br (e12<=e26) ((false)=(eG (a - 1) cols)/\True) (bK ((k:Int)+1)/\ ∃(k' :Nat),((k:Int)+1)=(k' :Int)/\(k' <=cols.length/\(List.range k').all (jM (a - 1) cols)=true)/\cols.length - k' <cols.length - k)) (bK ((k:Int)+1)/\ ∃(k' :Nat),((k:Int)+1)=(k' :Int)/\(k' <=cols.length/\(List.range k').all (jM (a - 1) cols)=true)/\cols.length - k' <cols.length - k))) ((true)=(eG (a - 1) cols)/\True))) (by kernel_rfl) ?_;refine lx fun n0=>?_;refine⟨aAH _,⟨0,rfl,aDB _,rfl⟩,fun k ⟨hk,hv⟩=>?_⟩;refine dd (fun c0=>?_) fun c0=>?_
 ·refine⟨by omega,rfl,by omega,fun e12 h12=>?_⟩;refine⟨⟨by omega,by omega⟩,jT _ _ _,dm (fun g19=>?_) fun g19=>?_⟩
  ·have hp:jM (a - 1) cols k=false:=by rw[jM,bO h12,g19];rfl
   apply et1
   ·(rw[eG,iQ (by omega) hp];done)
  ·refine dd (fun g22=>?_) fun g22=>?_
   ·refine⟨⟨by omega,by omega⟩,by omega,rfl,by omega,fun e26 h26=>?_⟩;have i26:cols[k - 1]? =some e26:=by rw[<-h26];congr 1;omega
    refine dd (fun c1=>?_) fun c1=>?_
    ·have hp:jM (a - 1) cols k=false:=by rw[jM,bO h12,bO i26,show decide (e26<e12)=false by simp;omega,show decide (k=0)=false by simp;omega];simp
     apply et1
     ·(rw[eG,iQ (by omega) hp];done)
    ·have hp:jM (a - 1) cols k=true:=by rw[jM,bO h12,g19,bO i26,show decide (e26<e12)=true by simp;omega];simp
     refine⟨⟨by omega,by omega⟩,?_⟩;exact⟨k+1,rfl,⟨by omega,kR hv hp⟩,by omega⟩
   ·have hp:jM (a - 1) cols k=true:=by rw[jM,bO h12,g19,show decide (k=0)=true by simp;omega];rfl
    refine⟨⟨by omega,by omega⟩,?_⟩;exact⟨k+1,rfl,⟨by omega,kR hv hp⟩,by omega⟩
 ·apply et1
  ·(rw[eG,show cols.length=k by omega,hv];done)
theorem cH {t:aV}(h:aZ t=true):1<=t.arity/\t.arity<=3/\t.rows.length<=8:=by
 simp only[aZ,aCA,aUa] at h;have:=eN h.2.2.1;omega
theorem aII {t:aV}(h:aZ t=true):IntKind.i64.wrap (t.arity - 1)=t.arity - 1:=by
 have:=cH h;exact IntWalk.i64_in _ ⟨by omega,by omega⟩
theorem aVa {t:aV}{cols:List Int}(h:eG (IntKind.i64.wrap (t.arity - 1)) cols=false):(aZ t&&eG (t.arity - 1) cols)=false:=by
 cases e:aZ t with
 | false=>rfl
 | true=>rw[aII e] at h;rw[h];rfl
theorem aYY {t:aV}{cols:List Int}(h:eG (IntKind.i64.wrap (t.arity - 1)) cols=true):(aZ t&&eG (t.arity - 1) cols)=aZ t:=by
 cases e:aZ t with
 | false=>rfl
 | true=>rw[aII e] at h;rw[h];rfl
abbrev aAj (t:aV)(cols:List Int):Prop:=Cn 243 [.agg [.str t.name,.int .i64 t.arity,.sl 91 1 (t.rows.map aE)],.one (.sl 3 1 (cols.map intD))] (vB (aZ t&&eG (t.arity - 1) cols)) []
theorem aLd (t:aV)(cols:List Int):aAj t cols:=by
 refine cq Tryz.func243 (.loop Nat (Q1 Nat) (rg 5 32) [] (fun k=>[(5,vI (k:Int))]) (fun k=>[]) (fun k=>k<=cols.length/\(List.range k).all (jM (IntKind.i64.wrap (t.arity - 1)) cols)=true) (fun k=>cols.length - k) (fun k=> .len cols.length<| .br (.elem _ intD cols (fun e14=> .raw<| .call (vB (eQ e14 (0:Int) (IntKind.i64.wrap (t.arity - 1)))) []<| .br (.fin []) (.lit<| .lit<| .br (.elem _ intD cols (fun e28=> .elem _ intD cols (fun e32=> .lit<| .lit<| .lit<| .lit<| .lit<| .br (.fin []) (.back [])))) (.back [])))) (.call (vB (aZ t)) []<| .fin []))) (p:=Lx (t.rows.map aE)<| Lx (cols.map intD)<| (∃(k:Nat),0=(k:Int)/\k<=cols.length/\(List.range k).all (jM (IntKind.i64.wrap (t.arity - 1)) cols)=true)/\ ∀(k:Nat),(k<=cols.length/\(List.range k).all (jM (IntKind.i64.wrap (t.arity - 1)) cols)=true)->Lm intD cols/\Br ((k:Int)<(cols.length:Int)) (0<=(k:Int)/\Em intD cols k fun e14=>fI e14 (0:Int) (IntKind.i64.wrap (t.arity - 1))/\Nr (eQ e14 (0:Int) (IntKind.i64.wrap (t.arity - 1))) ((false)=(aZ t&&eG (t.arity - 1) cols)/\True) (Br (0<(k:Int)) (bK ((k:Int) - 1)/\0<=((k:Int) - 1)/\Em intD cols (((k:Int) - 1).toNat) fun e28=>0<=(k:Int)/\Em intD cols k fun e32=>Br (e32<=e28) ((false)=(aZ t&&eG (t.arity - 1) cols)/\True) (bK ((k:Int)+1)/\ ∃(k' :Nat),((k:Int)+1)=(k' :Int)/\(k' <=cols.length/\(List.range k').all (jM (IntKind.i64.wrap (t.arity - 1)) cols)=true)/\cols.length - k' <cols.length - k)) (bK ((k:Int)+1)/\ ∃(k' :Nat),((k:Int)+1)=(k' :Int)/\(k' <=cols.length/\(List.range k').all (jM (IntKind.i64.wrap (t.arity - 1)) cols)=true)/\cols.length - k' <cols.length - k))) (qG t/\(aZ t)=(aZ t&&eG (t.arity - 1) cols)/\True)) (by kernel_rfl) ?_;refine lx fun n0=>lx fun n1=>?_;refine⟨⟨0,rfl,aDB _,rfl⟩,fun k ⟨hk,hv⟩=>?_⟩;refine⟨aAH _,dd (fun c0=>?_) fun c0=>?_⟩
 ·refine⟨by omega,rfl,by omega,fun e14 h14=>?_⟩;refine⟨jU _ _ _,dm (fun g21=>?_) fun g21=>?_⟩
  ·have hp:jM (IntKind.i64.wrap (t.arity - 1)) cols k=false:=by rw[jM,bO h14,g21];rfl
   apply et1
   ·(rw[aVa (by rw[eG,iQ (by omega) hp])];done)
  ·refine dd (fun g24=>?_) fun g24=>?_
   ·refine⟨⟨by omega,by omega⟩,by omega,rfl,by omega,fun e28 h28=>?_⟩;have i28:cols[k - 1]? =some e28:=by rw[<-h28];congr 1;omega
    refine⟨by omega,rfl,by omega,fun e32 h32=>?_⟩;obtain rfl:=(aY h14 h32).symm;refine dd (fun c1=>?_) fun c1=>?_
    ·have hp:jM (IntKind.i64.wrap (t.arity - 1)) cols k=false:=by rw[jM,bO h14,bO i28,show decide (e28<e14)=false by simp;omega,show decide (k=0)=false by simp;omega];simp
     apply et1
     ·(rw[aVa (by rw[eG,iQ (by omega) hp])];done)
    ·have hp:jM (IntKind.i64.wrap (t.arity - 1)) cols k=true:=by rw[jM,bO h14,g21,bO i28,show decide (e28<e14)=true by simp;omega];simp
     refine⟨⟨by omega,by omega⟩,?_⟩;exact⟨k+1,rfl,⟨by omega,kR hv hp⟩,by omega⟩
   ·have hp:jM (IntKind.i64.wrap (t.arity - 1)) cols k=true:=by rw[jM,bO h14,g21,show decide (k=0)=true by simp;omega];rfl
    refine⟨⟨by omega,by omega⟩,?_⟩;exact⟨k+1,rfl,⟨by omega,kR hv hp⟩,by omega⟩
 ·refine⟨aAh t,?_,trivial⟩
  ·(rw[aYY (by rw[eG,show cols.length=k by omega,hv])];done)
end Go.Proofs.YtlidmoeecphbmaaGreat
