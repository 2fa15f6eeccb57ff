/-
  Contracts and plain laws, joined: part 5.
-/
import Derived.Test.YtlidmoeecphbmaaGreateb3
import Derived.IntWalk
namespace Go.Proofs.YtlidmoeecphbmaaGreat
open Go.ChangeShapes Go.WideShapes Go.ChangeAt Go.RowKit
set_option linter.unusedVariables false
set_option linter.unusedSimpArgs false
set_option maxRecDepth 100000
set_option maxHeartbeats 4000000
def cB:List Int->List Int->Int
 | [],[]=>0
 | [],_::_=> -1
 | _::_,[]=>1
 | a::l,b::m=>if a<b then -1 else if b<a then 1 else cB l m
theorem eP: ∀{l m:List Int},cB l m=0↔l=m
 | [],[]=>by simp[cB]
 | [],_::_=>by simp[cB]
 | _::_,[]=>by simp[cB]
 | a::l,b::m=>by
   unfold cB;split
   ·simp;omega
   split
   ·simp;omega
   rw[eP];have:a=b:=by omega
   simp[this]
theorem lK {α:Type}{l:List α}{k:Nat}{x:α}(h:l[k]? =some x):l.drop k=x::l.drop (k+1):=by
 obtain⟨hk,rfl⟩:=aEa.1 h;exact List.drop_eq_getElem_cons hk
theorem yB {α:Type}{l:List α}{k:Nat}(h:l.length<=k):l.drop k= []:=List.drop_eq_nil_of_le h
theorem jT {l m:List Int}{k:Nat}(hk:k<=l.length/\k<=m.length)(hs: ¬k<l.length\/ ¬k<m.length):cB (l.drop k) (m.drop k)=if l.length<m.length then -1 else if m.length<l.length then 1 else 0:=by
 by_cases h1:k<l.length
 ·obtain⟨x,hx⟩:=dA h1;rw[lK hx,yB (l:=m) (by omega),cB,if_neg (by omega),if_pos (by omega)]
 rw[yB (l:=l) (by omega)];by_cases h2:k<m.length
 ·obtain⟨x,hx⟩:=dA h2;rw[lK hx,cB,if_pos (by omega)]
 rw[yB (l:=m) (by omega),cB,if_neg (by omega),if_neg (by omega)]
abbrev fN (l:List Int)(m:List Int):Prop:=Cn 221 [.one (.sl 3 1 (l.map intD)),.one (.sl 3 1 (m.map intD))] (vI (cB l m)) []
theorem jA (l m:List Int):fN l m:=by
 refine cq Tryz.func221 (.loop Nat (Q1 Nat) (rg 5 31) [] (fun k=>[(5,vI (k:Int))]) (fun k=>[]) (fun k=>(k<=l.length/\k<=m.length)/\cB (l.drop k) (m.drop k)=cB l m) (fun k=>l.length - k) (fun k=> .len l.length<| .br (.len m.length<| .lit<| .lit<| .br (.elem _ intD l (fun e20=> .elem _ intD m (fun e24=> .br (.fin []) (.elem _ intD l (fun e29=> .elem _ intD m (fun e33=> .br (.fin []) (.back []))))))) (.len l.length<| .len m.length<| .br (.fin []) (.len l.length<| .len m.length<| .br (.fin []) (.fin [])))) (.len l.length<| .len m.length<| .br (.fin []) (.len l.length<| .len m.length<| .br (.fin []) (.fin []))))) (p:=Lx (l.map intD)<| Lx (m.map intD)<| (∃(k:Nat),0=(k:Int)/\(k<=l.length/\k<=m.length)/\cB (l.drop k) (m.drop k)=cB l m)/\ ∀(k:Nat),((k<=l.length/\k<=m.length)/\cB (l.drop k) (m.drop k)=cB l m)->Lm intD l/\Br ((k:Int)<(l.length:Int)) (Lm intD m/\Br ((k:Int)<(m.length:Int)) (0<=(k:Int)/\Em intD l k fun e20=>0<=(k:Int)/\Em intD m k fun e24=>Br (e20<e24) ((-1:Int)=(cB l m)/\True) (0<=(k:Int)/\Em intD l k fun e29=>0<=(k:Int)/\Em intD m k fun e33=>Br (e33<e29) (1=(cB l m)/\True) (bK ((k:Int)+1)/\ ∃(k' :Nat),((k:Int)+1)=(k' :Int)/\((k' <=l.length/\k' <=m.length)/\cB (l.drop k') (m.drop k')=cB l m)/\l.length - k' <l.length - k))) (Lm intD l/\Lm intD m/\Br ((l.length:Int)<(m.length:Int)) ((-1:Int)=(cB l m)/\True) (Lm intD l/\Lm intD m/\Br ((m.length:Int)<(l.length:Int)) (1=(cB l m)/\True) (0=(cB l m)/\True)))) (Lm intD l/\Lm intD m/\Br ((l.length:Int)<(m.length:Int)) ((-1:Int)=(cB l m)/\True) (Lm intD l/\Lm intD m/\Br ((m.length:Int)<(l.length:Int)) (1=(cB l m)/\True) (0=(cB l m)/\True)))) (by kernel_rfl) ?_;refine lx fun n0=>lx fun n1=>?_;refine⟨⟨0,rfl,⟨aCC _,aCC _⟩,rfl⟩,fun k ⟨hk,hv⟩=>?_⟩;refine⟨aA8 _,dd (fun g10=>?_) fun g10=>?_⟩
 ·refine⟨aA8 _,dd (fun c0=>?_) fun c0=>?_⟩
  ·obtain⟨x,hx⟩:=dA (l:=l) (k:=k) (by omega);obtain⟨y,hy⟩:=dA (l:=m) (k:=k) (by omega);have hd:cB l m=if x<y then -1 else if y<x then 1 else cB (l.drop (k+1)) (m.drop (k+1)):=by rw[<-hv,lK hx,lK hy,cB]
   refine⟨by omega,rfl,by omega,fun e20 h20=>?_⟩;obtain rfl:=(aW hx h20).symm;refine⟨by omega,rfl,by omega,fun e24 h24=>?_⟩;obtain rfl:=(aW hy h24).symm;refine dd (fun c1=>?_) fun c1=>?_
   ·apply et1
    ·(rw[hd,if_pos c1];done)
   ·refine⟨by omega,rfl,by omega,fun e29 h29=>?_⟩;obtain rfl:=(aW hx h29).symm;refine⟨by omega,rfl,by omega,fun e33 h33=>?_⟩;obtain rfl:=(aW hy h33).symm;refine dd (fun c2=>?_) fun c2=>?_
    ·apply et1
     ·(rw[hd,if_neg c1,if_pos c2];done)
    ·refine⟨⟨by omega,by omega⟩,?_⟩;exact⟨k+1,rfl,⟨by omega,by rw[hd,if_neg c1,if_neg c2]⟩,by omega⟩
  ·refine⟨aA8 _,aA8 _,dd (fun c3=>?_) fun c3=>?_⟩
   ·apply et1
    ·(rw[<-hv,jT hk (by omega),if_pos (by omega)];done)
   ·refine⟨aA8 _,aA8 _,dd (fun c4=>?_) fun c4=>?_⟩
    ·apply et1
     ·(rw[<-hv,jT hk (by omega),if_neg (by omega),if_pos (by omega)];done)
    ·apply et1
     ·(rw[<-hv,jT hk (by omega),if_neg (by omega),if_neg (by omega)];done)
 ·refine⟨aA8 _,aA8 _,dd (fun c3=>?_) fun c3=>?_⟩
  ·apply et1
   ·(rw[<-hv,jT hk (by omega),if_pos (by omega)];done)
  ·refine⟨aA8 _,aA8 _,dd (fun c4=>?_) fun c4=>?_⟩
   ·apply et1
    ·(rw[<-hv,jT hk (by omega),if_neg (by omega),if_pos (by omega)];done)
   ·apply et1
    ·(rw[<-hv,jT hk (by omega),if_neg (by omega),if_neg (by omega)];done)
theorem aYD {x y:aQ}(h1:x.columns=y.columns)(h2:x.values=y.values)(h3:x.counts=y.counts):x=y:=by
 obtain⟨a,b,c⟩:=x;obtain⟨d,e,f⟩:=y;simp at h1 h2 h3;subst h1 h2 h3;rfl
abbrev rD (a:aM)(b:aM):Prop:=Cn 179 [.agg [.str a.name,.int .i64 a.arity,.int .i64 a.rowCount,.sl 220 3 (a.groups.map aD)],.agg [.str b.name,.int .i64 b.arity,.int .i64 b.rowCount,.sl 220 3 (b.groups.map aD)]] (vB (decide (a=b))) []
theorem aC0 (a b:aM)(ha:bF a<=1048576):rD a b:=by
 refine cq Tryz.func179 (.br (.fin []) (.lit<| .lit<| .lit<| .lit<| .lit<| .br (.fin []) (.lit<| .lit<| .lit<| .lit<| .lit<| .br (.fin []) (.len a.groups.length<| .len b.groups.length<| .lit<| .lit<| .br (.fin []) (.loop Nat (Q1 Nat) ([5,6,7,8]++rg 37 59) [600,700] (fun i=>[(5,vI (i:Int))]) (fun i=>[]) (fun i=>i<=a.groups.length/\a.groups.take i=b.groups.take i) (fun i=>a.groups.length - i) (fun i=> .len a.groups.length<| .br (.elem _ aD a.groups (fun e47=> .elem _ aD b.groups (fun e52=> .call (vI (cB e47.columns e52.columns)) []<| .br (.fin []) (.call (vI (cB e47.counts e52.counts)) []<| .lit<| .lit<| .br (.fin []) (.len e47.values.length<| .len e52.values.length<| .lit<| .lit<| .br (.fin []) (.loop Nat (Q1 Nat) ([8]++rg 77 19) [] (fun k=>[(8,vI (k:Int))]) (fun k=>[]) (fun k=>k<=e47.values.length/\e47.values.take k=e52.values.take k) (fun k=>e47.values.length - k) (fun k=> .len e47.values.length<| .br (.elem _ aC e47.values (fun e87=> .elem _ aC e52.values (fun e92=> .call (vI (cB e87 e92)) []<| .br (.fin []) (.back [])))) (.back [])))))))) (.fin []))))))) (p:=Lx (a.groups.map aD)<| Lx (b.groups.map aD)<| Nr (a.name.toList==b.name.toList) ((false)=(decide (a=b))/\True) (Nb (a.arity=b.arity) ((false)=(decide (a=b))/\True) (Nb (a.rowCount=b.rowCount) ((false)=(decide (a=b))/\True) (Lm aD a.groups/\(Lm aD b.groups/\Nb ((a.groups.length:Int)=(b.groups.length:Int)) ((false)=(decide (a=b))/\True) ((∃(i:Nat),0=(i:Int)/\i<=a.groups.length/\a.groups.take i=b.groups.take i)/\ ∀(i:Nat),(i<=a.groups.length/\a.groups.take i=b.groups.take i)->Lm aD a.groups/\Br ((i:Int)<(a.groups.length:Int)) (0<=(i:Int)/\Em aD a.groups i fun e47=>0<=(i:Int)/\Em aD b.groups i fun e52=>fN e47.columns e52.columns/\Nb ((cB e47.columns e52.columns)=0) ((false)=(decide (a=b))/\True) (fN e47.counts e52.counts/\Nb ((cB e47.counts e52.counts)=0) ((false)=(decide (a=b))/\True) (Lm aC e47.values/\(Lm aC e52.values/\Nb ((e47.values.length:Int)=(e52.values.length:Int)) ((false)=(decide (a=b))/\True) ((∃(k:Nat),0=(k:Int)/\k<=e47.values.length/\e47.values.take k=e52.values.take k)/\ ∀(k:Nat),(k<=e47.values.length/\e47.values.take k=e52.values.take k)->Lm aC e47.values/\Br ((k:Int)<(e47.values.length:Int)) (0<=(k:Int)/\Em aC e47.values k fun e87=>0<=(k:Int)/\Em aC e52.values k fun e92=>fN e87 e92/\Nb ((cB e87 e92)=0) ((false)=(decide (a=b))/\True) (bK ((k:Int)+1)/\ ∃(k' :Nat),((k:Int)+1)=(k' :Int)/\(k' <=e47.values.length/\e47.values.take k' =e52.values.take k')/\e47.values.length - k' <e47.values.length - k)) (bK ((i:Int)+1)/\ ∃(i' :Nat),((i:Int)+1)=(i' :Int)/\(i' <=a.groups.length/\a.groups.take i' =b.groups.take i')/\a.groups.length - i' <a.groups.length - i)))))) ((true)=(decide (a=b))/\True))))))) (by kernel_rfl) ?_;refine lx fun n0=>lx fun n1=>?_;refine dm (fun g14=>?_) fun g14=>?_
 ·apply et1
  ·(rw[gJ];simp_all [oF];done)
 ·refine dn (fun g21=>?_) fun g21=>?_
  ·apply et1
   ·(rw[gJ];simp_all [oF];done)
  ·refine dn (fun g28=>?_) fun g28=>?_
   ·apply et1
    ·(rw[gJ];simp_all [oF];done)
   ·refine⟨aA8 _,aA8 _,dn (fun c0=>?_) fun c0=>?_⟩
    ·have hne: ¬a=b:=fun e=>c0 (by rw[e]);apply et1
     ·(simp[hne];done)
    ·have hl:a.groups.length=b.groups.length:=by omega
     refine⟨⟨0,rfl,aCC _,rfl⟩,fun i ⟨hi,ht⟩=>?_⟩;refine⟨aA8 _,dd (fun c1=>?_) fun c1=>?_⟩
     ·refine⟨by omega,rfl,by omega,fun e47 h47=>?_⟩;have q1:=gY h47;have q2:bF a=a.name.size+dK a.groups:=rfl;have q3:bV e47=cC e47.columns+cO e47.values+cC e47.counts:=rfl;have q4:=fD e47.values;refine⟨by omega,rfl,by omega,fun e52 h52=>?_⟩;refine⟨jA _ _,dn (fun g60=>?_) fun g60=>?_⟩
      ·have hne: ¬a=b:=fun e=>by subst e;have q:=aW h47 h52;subst q;exact g60 (eP.2 rfl)
       apply et1
       ·(simp[hne];done)
      ·refine⟨jA _ _,dn (fun g68=>?_) fun g68=>?_⟩
       ·have hne: ¬a=b:=fun e=>by subst e;have q:=aW h47 h52;subst q;exact g68 (eP.2 rfl)
        apply et1
        ·(simp[hne];done)
       ·refine⟨aA8 _,aA8 _,dn (fun c2=>?_) fun c2=>?_⟩
        ·have hne: ¬a=b:=fun e=>by subst e;have q:=aW h47 h52;subst q;exact c2 rfl
         apply et1
         ·(simp[hne];done)
        ·refine⟨⟨0,rfl,aCC _,rfl⟩,fun k ⟨hk,hv⟩=>?_⟩;refine⟨aA8 _,dd (fun c3=>?_) fun c3=>?_⟩
         ·refine⟨by omega,rfl,by omega,fun e87 h87=>?_⟩;refine⟨by omega,rfl,by omega,fun e92 h92=>?_⟩;refine⟨jA _ _,dn (fun c4=>?_) fun c4=>?_⟩
          ·have hne: ¬a=b:=fun e=>by subst e;have q:=aW h47 h52;subst q;have q:=aW h87 h92;subst q;exact c4 (eP.2 rfl)
           apply et1
           ·(simp[hne];done)
          ·refine⟨⟨by omega,by omega⟩,?_⟩;exact⟨k+1,rfl,⟨by omega,mS h87 (by rw[h92,eP.1 c4]) hv⟩,by omega⟩
         ·have hxy:e52=e47:=(aYD (eP.1 g60) (mT (by omega) (by omega) hv) (eP.1 g68)).symm;refine⟨⟨by omega,by omega⟩,?_⟩;exact⟨i+1,rfl,⟨by omega,mS h47 (by rw[h52,hxy]) ht⟩,by omega⟩
     ·have hg:=mT (by omega) hl ht;apply et1
      ·(rw[gJ];simp_all [oF];done)
abbrev aC1 (a:cE)(b:cE):Prop:=Cn 123 [.agg [.int .i64 a.version,.sl 88 4 (a.tables.map aG)],.agg [.int .i64 b.version,.sl 88 4 (b.tables.map aG)]] (vB (decide (a=b))) []
theorem aO3 (a b:cE)(ha:bS a<=1048576):aC1 a b:=by
 refine cq Tryz.func123 (.br (.fin []) (.len a.tables.length<| .len b.tables.length<| .lit<| .lit<| .br (.fin []) (.loop Nat (Q1 Nat) ([5]++rg 20 19) [] (fun k=>[(5,vI (k:Int))]) (fun k=>[]) (fun k=>k<=a.tables.length/\a.tables.take k=b.tables.take k) (fun k=>a.tables.length - k) (fun k=> .len a.tables.length<| .br (.elem _ aG a.tables (fun e30=> .elem _ aG b.tables (fun e35=> .call (vB (decide (e30=e35))) []<| .br (.fin []) (.back [])))) (.fin []))))) (p:=Lx (a.tables.map aG)<| Lx (b.tables.map aG)<| Nb (a.version=b.version) ((false)=(decide (a=b))/\True) (Lm aG a.tables/\(Lm aG b.tables/\Nb ((a.tables.length:Int)=(b.tables.length:Int)) ((false)=(decide (a=b))/\True) ((∃(k:Nat),0=(k:Int)/\k<=a.tables.length/\a.tables.take k=b.tables.take k)/\ ∀(k:Nat),(k<=a.tables.length/\a.tables.take k=b.tables.take k)->Lm aG a.tables/\Br ((k:Int)<(a.tables.length:Int)) (0<=(k:Int)/\Em aG a.tables k fun e30=>0<=(k:Int)/\Em aG b.tables k fun e35=>rD e30 e35/\Nb (e30=e35) ((false)=(decide (a=b))/\True) (bK ((k:Int)+1)/\ ∃(k' :Nat),((k:Int)+1)=(k' :Int)/\(k' <=a.tables.length/\a.tables.take k' =b.tables.take k')/\a.tables.length - k' <a.tables.length - k)) ((true)=(decide (a=b))/\True))))) (by kernel_rfl) ?_;refine lx fun n0=>lx fun n1=>?_;have hS:bS a=dU a.tables:=rfl;refine dn (fun g11=>?_) fun g11=>?_
 ·apply et1
  ·(rw[oW];simp_all;done)
 ·refine⟨aA8 _,aA8 _,dn (fun c0=>?_) fun c0=>?_⟩
  ·have hne: ¬a=b:=fun e=>c0 (by rw[e]);apply et1
   ·(simp[hne];done)
  ·have hl:a.tables.length=b.tables.length:=by omega
   refine⟨⟨0,rfl,aCC _,rfl⟩,fun k ⟨hk,ht⟩=>?_⟩;refine⟨aA8 _,dd (fun c1=>?_) fun c1=>?_⟩
   ·refine⟨by omega,rfl,by omega,fun e30 h30=>?_⟩;refine⟨by omega,rfl,by omega,fun e35 h35=>?_⟩;refine⟨aC0 _ _ (by have:=kJ h30;omega),dn (fun c2=>?_) fun c2=>?_⟩
    ·have hne: ¬a=b:=fun e=>by subst e;exact c2 (aW h35 h30)
     apply et1
     ·(simp[hne];done)
    ·refine⟨⟨by omega,by omega⟩,?_⟩;exact⟨k+1,rfl,⟨by omega,mS h30 (by rw[h35,c2]) ht⟩,by omega⟩
   ·have hg:=mT (by omega) hl ht;apply et1
    ·(rw[oW];simp_all;done)
abbrev eQ (n:Int)(a:Int)(b:Int):Prop:=Cn 83 [.one (.int .i64 n),.one (.int .i64 a),.one (.int .i64 b)] (vB (eC n a b)) []
theorem iR (n a b:Int):eQ n a b:=by
 refine cq Tryz.func83 (.br (.fin []) (.fin [])) (p:=Br (a<=n) ((decide (n<=b))=(eC n a b)/\True) ((false)=(eC n a b)/\True)) (by kernel_rfl) ?_;refine dd (fun g10=>?_) fun g10=>?_
 ·apply et1
  ·(simp[eC,g10];done)
 ·apply et1
  ·(simp[eC,g10];done)
abbrev eR (n:Int)(a:Int)(b:Int):Prop:=Cn 74 [.one (.int .i64 n),.one (.int .i64 a),.one (.int .i64 b)] (vB (eC n a b)) []
theorem iS (n a b:Int):eR n a b:=by
 refine cq Tryz.func74 (.br (.fin []) (.fin [])) (p:=Br (a<=n) ((decide (n<=b))=(eC n a b)/\True) ((false)=(eC n a b)/\True)) (by kernel_rfl) ?_;refine dd (fun g10=>?_) fun g10=>?_
 ·apply et1
  ·(simp[eC,g10];done)
 ·apply et1
  ·(simp[eC,g10];done)
def aC2 (v:Int):Bool:=eC v 0 9
def jU (n:Int)(r:List Int):Bool:=r.all aC2&&decide ((r.length:Int)=n)
def gD (s:ByteArray):Bool:=decide ((s.size:Int)=1)&&(decide (97<=uU s 0)&&decide (uU s 0<=122))
abbrev aGT (r:List Int)(n:Int):Prop:=Cn 237 [.one (.sl 3 1 (r.map intD)),.one (.int .i64 n)] (vB (jU n r)) []
theorem aTV (r:List Int)(n:Int):aGT r n:=by
 refine cq Tryz.func237 (.len r.length<| .loop Nat (Q1 Nat) ([6]++rg 9 8) [] (fun k=>[(9,vI (k:Int))]) (fun k=>[]) (fun k=>k<=r.length/\(r.take k).all aC2=true) (fun k=>r.length - k) (fun k=> .br (.elem _ intD r (fun e11=> .call (vB (eC e11 (0:Int) (9:Int))) []<| .br (.fin []) (.back []))) (.len r.length<| .fin []))) (p:=Lx (r.map intD)<| Lm intD r/\((∃(k:Nat),0=(k:Int)/\k<=r.length/\(r.take k).all aC2=true)/\ ∀(k:Nat),(k<=r.length/\(r.take k).all aC2=true)->Br ((k:Int)<(r.length:Int)) (0<=(k:Int)/\Em intD r k fun e11=>eQ e11 (0:Int) (9:Int)/\Nr (eC e11 (0:Int) (9:Int)) ((false)=(jU n r)/\True) (bK ((k:Int)+1)/\ ∃(k' :Nat),((k:Int)+1)=(k' :Int)/\(k' <=r.length/\(r.take k').all aC2=true)/\r.length - k' <r.length - k)) (Lm intD r/\(decide ((r.length:Int)=n))=(jU n r)/\True))) (by kernel_rfl) ?_;refine lx fun n0=>?_;refine⟨aA8 _,⟨0,rfl,aCC _,rfl⟩,fun k ⟨hk,ha⟩=>?_⟩;refine dd (fun c0=>?_) fun c0=>?_
 ·refine⟨by omega,rfl,by omega,fun e11 h11=>?_⟩;refine⟨iR _ _ _,dm (fun c1=>?_) fun c1=>?_⟩
  ·apply et1
   ·(rw[jU,eJ h11 c1];rfl)
  ·refine⟨⟨by omega,by omega⟩,?_⟩;exact⟨k+1,rfl,⟨by omega,cG h11 ha c1⟩,by omega⟩
 ·refine⟨aA8 _,?_,trivial⟩
  ·(rw[jU,cY (by omega) ha];simp)
abbrev aGU (r:List Int)(n:Int):Prop:=Cn 242 [.one (.sl 3 1 (r.map intD)),.one (.int .i64 n)] (vB (jU n r)) []
theorem aTW (r:List Int)(n:Int):aGU r n:=by
 refine cq Tryz.func242 (.loop Nat (Q1 Nat) (rg 5 13) [] (fun k=>[(5,vI (k:Int))]) (fun k=>[]) (fun k=>k<=r.length/\(r.take k).all aC2=true) (fun k=>r.length - k) (fun k=> .len r.length<| .br (.elem _ intD r (fun e14=> .call (vB (eC e14 (0:Int) (9:Int))) []<| .br (.fin []) (.back []))) (.len r.length<| .fin []))) (p:=Lx (r.map intD)<| (∃(k:Nat),0=(k:Int)/\k<=r.length/\(r.take k).all aC2=true)/\ ∀(k:Nat),(k<=r.length/\(r.take k).all aC2=true)->Lm intD r/\Br ((k:Int)<(r.length:Int)) (0<=(k:Int)/\Em intD r k fun e14=>eR e14 (0:Int) (9:Int)/\Nr (eC e14 (0:Int) (9:Int)) ((false)=(jU n r)/\True) (bK ((k:Int)+1)/\ ∃(k' :Nat),((k:Int)+1)=(k' :Int)/\(k' <=r.length/\(r.take k').all aC2=true)/\r.length - k' <r.length - k)) (Lm intD r/\(decide ((r.length:Int)=n))=(jU n r)/\True)) (by kernel_rfl) ?_;refine lx fun n0=>?_;refine⟨⟨0,rfl,aCC _,rfl⟩,fun k ⟨hk,ha⟩=>?_⟩;refine⟨aA8 _,dd (fun c0=>?_) fun c0=>?_⟩
 ·refine⟨by omega,rfl,by omega,fun e14 h14=>?_⟩;refine⟨iS _ _ _,dm (fun c1=>?_) fun c1=>?_⟩
  ·apply et1
   ·(rw[jU,eJ h14 c1];rfl)
  ·refine⟨⟨by omega,by omega⟩,?_⟩;exact⟨k+1,rfl,⟨by omega,cG h14 ha c1⟩,by omega⟩
 ·refine⟨aA8 _,?_,trivial⟩
  ·(rw[jU,cY (by omega) ha];simp)
abbrev yC (s:ByteArray):Prop:=Cn 191 [.one (.str s)] (vB (gD s)) []
theorem aJc (s:ByteArray):yC s:=by
 refine cq Tryz.func191 (.br (.lit<| .lit<| .lit<| .br (.fin []) (.fin [])) (.fin [])) (p:=Br ((s.size:Int)=1) (0<=(0:Int)/\0<(s.size:Int)/\Br (97<=(uU s 0)) (0<=(0:Int)/\0<(s.size:Int)/\(decide ((uU s 0)<=122))=(gD s)/\True) ((false)=(gD s)/\True)) ((false)=(gD s)/\True)) (by kernel_rfl) ?_;refine dd (fun g6=>?_) fun g6=>?_
 ·refine⟨by omega,by omega,dd (fun g11=>?_) fun g11=>?_⟩
  ·refine⟨by omega,by omega,?_,trivial⟩
   ·(simp[gD,g6,g11];done)
  ·apply et1
   ·(simp[gD,g6,g11];done)
 ·apply et1
  ·(simp[gD,g6];done)
abbrev yD (s:ByteArray):Prop:=Cn 182 [.one (.str s)] (vB (gD s)) []
theorem aJd (s:ByteArray):yD s:=by
 refine cq Tryz.func182 (.br (.lit<| .lit<| .lit<| .br (.fin []) (.fin [])) (.fin [])) (p:=Br ((s.size:Int)=1) (0<=(0:Int)/\0<(s.size:Int)/\Br (97<=(uU s 0)) (0<=(0:Int)/\0<(s.size:Int)/\(decide ((uU s 0)<=122))=(gD s)/\True) ((false)=(gD s)/\True)) ((false)=(gD s)/\True)) (by kernel_rfl) ?_;refine dd (fun g6=>?_) fun g6=>?_
 ·refine⟨by omega,by omega,dd (fun g11=>?_) fun g11=>?_⟩
  ·refine⟨by omega,by omega,?_,trivial⟩
   ·(simp[gD,g6,g11];done)
  ·apply et1
   ·(simp[gD,g6,g11];done)
 ·apply et1
  ·(simp[gD,g6];done)
abbrev aDX (n:Int):Prop:=Cn 291 [.one (.int .i64 n)] (vB false) []
theorem aPl (n:Int):aDX n:=by
 refine cq Tryz.func291 (.fin []) (p:=(!(decide (n=n)))=false/\True) (by kernel_rfl) ?_;apply et1
 ·simp
def sZ (a b:Int):Int:=if a<b then -1 else if b<a then 1 else 0
abbrev aJe (a:Int)(b:Int):Prop:=Cn 277 [.one (.int .i64 a),.one (.int .i64 b)] (vI (sZ a b)) []
theorem aWH (a b:Int):aJe a b:=by
 refine cq Tryz.func277 (.call (vB false) []<| .call (vB false) []<| .lit<| .lit<| .br (.fin []) (.br (.fin []) (.fin []))) (p:=aDX a/\aDX b/\Br (a<b) ((-1:Int)=(sZ a b)/\True) (Br (b<a) (1=(sZ a b)/\True) (0=(sZ a b)/\True))) (by kernel_rfl) ?_;refine⟨aPl _,aPl _,dd (fun c3=>?_) fun c3=>?_⟩
 ·apply et1
  ·simp[sZ, *];try omega
 ·refine dd (fun c4=>?_) fun c4=>?_
  ·apply et1
   ·simp[sZ, *];try omega
  ·apply et1
   ·simp[sZ, *];try omega
theorem aJf (a b:Int)(l m:List Int):cB (a::l) (b::m)=if sZ a b=0 then cB l m else sZ a b:=by
 unfold sZ;rw[cB];by_cases h1:a<b
 ·simp[h1]
 by_cases h2:b<a
 ·simp[h1,h2]
 simp[h1,h2]
abbrev aTX (l:List Int)(m:List Int):Prop:=Cn 262 [.one (.sl 3 1 (l.map intD)),.one (.sl 3 1 (m.map intD))] (vI (cB l m)) []
theorem aZC (l m:List Int):aTX l m:=by
 refine cq Tryz.func262 (.len l.length<| .loop Nat (Q1 Nat) ([5,6,7,8]++rg 11 18++[30]) [] (fun k=>[(11,vI (k:Int))]) (fun k=>[]) (fun k=>(k<=l.length/\k<=m.length)/\cB (l.drop k) (m.drop k)=cB l m) (fun k=>l.length - k) (fun k=> .br (.elem _ intD l (fun e14=> .len m.length<| .br (.fin []) (.elem _ intD m (fun e22=> .call (vI (sZ e14 e22)) []<| .br (.fin []) (.back []))))) (.len l.length<| .len m.length<| .br (.fin []) (.fin [])))) (p:=Lx (l.map intD)<| Lx (m.map intD)<| Lm intD l/\((∃(k:Nat),0=(k:Int)/\(k<=l.length/\k<=m.length)/\cB (l.drop k) (m.drop k)=cB l m)/\ ∀(k:Nat),((k<=l.length/\k<=m.length)/\cB (l.drop k) (m.drop k)=cB l m)->Br ((k:Int)<(l.length:Int)) (0<=(k:Int)/\Em intD l k fun e14=>Lm intD m/\Br ((m.length:Int)<=(k:Int)) (1=(cB l m)/\True) (0<=(k:Int)/\Em intD m k fun e22=>aJe e14 e22/\Nb ((sZ e14 e22)=0) ((sZ e14 e22)=(cB l m)/\True) (bK ((k:Int)+1)/\ ∃(k' :Nat),((k:Int)+1)=(k' :Int)/\((k' <=l.length/\k' <=m.length)/\cB (l.drop k') (m.drop k')=cB l m)/\l.length - k' <l.length - k))) (Lm intD l/\Lm intD m/\Br ((l.length:Int)<(m.length:Int)) ((-1:Int)=(cB l m)/\True) (0=(cB l m)/\True)))) (by kernel_rfl) ?_;refine lx fun n0=>lx fun n1=>?_;refine⟨aA8 _,⟨0,rfl,⟨aCC _,aCC _⟩,rfl⟩,fun k ⟨hk,hv⟩=>?_⟩;refine dd (fun c0=>?_) fun c0=>?_
 ·obtain⟨x,hx⟩:=dA (l:=l) (k:=k) (by omega);refine⟨by omega,rfl,by omega,fun e14 h14=>?_⟩;obtain rfl:=(aW hx h14).symm;refine⟨aA8 _,dd (fun c1=>?_) fun c1=>?_⟩
  ·apply et1
   ·(rw[<-hv,jT hk (by omega),if_neg (by omega),if_pos (by omega)];done)
  ·obtain⟨y,hy⟩:=dA (l:=m) (k:=k) (by omega);have hd:cB l m=if sZ x y=0 then cB (l.drop (k+1)) (m.drop (k+1)) else sZ x y:=by rw[<-hv,lK hx,lK hy,aJf]
   refine⟨by omega,rfl,by omega,fun e22 h22=>?_⟩;obtain rfl:=(aW hy h22).symm;refine⟨aWH _ _,dn (fun c2=>?_) fun c2=>?_⟩
   ·apply et1
    ·(rw[hd,if_neg c2];done)
   ·refine⟨⟨by omega,by omega⟩,?_⟩;exact⟨k+1,rfl,⟨by omega,by rw[hd,if_pos c2]⟩,by omega⟩
 ·refine⟨aA8 _,aA8 _,dd (fun c3=>?_) fun c3=>?_⟩
  ·apply et1
   ·(rw[<-hv,jT hk (by omega),if_pos (by omega)];done)
  ·apply et1
   ·(rw[<-hv,jT hk (by omega),if_neg (by omega),if_neg (by omega)];done)
abbrev yE (l:List Int)(m:List Int):Prop:=Cn 252 [.one (.sl 3 1 (l.map intD)),.one (.sl 3 1 (m.map intD))] (vI (cB l m)) []
theorem aLE (l m:List Int):yE l m:=by
 refine cq Tryz.func252 (.call (vI (cB l m)) []<| .fin []) (p:=Lx (l.map intD)<| Lx (m.map intD)<| aTX l m/\(cB l m)=(cB l m)/\True) (by kernel_rfl) ?_;refine lx fun n0=>lx fun n1=>?_;refine⟨aZC _ _,?_⟩;exact⟨rfl,trivial⟩
def lV (l:List (List Int))(i:Nat):Bool:=decide (cB (l.getD i []) (l.getD (i+1) [])<0)
def aDY (l:List (List Int)):Bool:=(List.range (l.length - 1)).all (lV l)
def aV (t:aY):Bool:=t.rows.all (jU t.arity)&&(gD t.name&&(eC t.arity 1 3&&(decide ((t.rows.length:Int)<=8)&&aDY t.rows)))
theorem jJ {p:Nat->Bool}{k:Nat}(h:(List.range k).all p=true)(hk:p k=true):(List.range (k+1)).all p=true:=by
 rw[List.range_succ,List.all_append,h];simp[hk]
theorem gZ {p:Nat->Bool}{n k:Nat}(hk:k<n)(h:p k=false):(List.range n).all p=false:=by
 rw[List.all_eq_false];exact⟨k,aSN.2 hk,by simp[h]⟩
theorem bM {α:Type}{l:List α}{k:Nat}{x y:α}(h:l[k]? =some x):l.getD k y=x:=by simp[aI2,h]
abbrev aGV (l:List (List Int)):Prop:=Cn 238 [.one (.sl 91 1 (l.map aC))] (vB (aDY l)) []
theorem aTY (l:List (List Int)):aGV l:=by
 refine cq Tryz.func238 (.loop Nat (Q1 Nat) (rg 3 18) [] (fun k=>[(3,vI ((k:Int)+1))]) (fun k=>[]) (fun k=>(k+1<=l.length\/k=0)/\(List.range k).all (lV l)=true) (fun k=>l.length - k) (fun k=> .len l.length<| .br (.elem _ aC l (fun e13=> .elem _ aC l (fun e17=> .call (vI (cB e13 e17)) []<| .br (.fin []) (.back [])))) (.fin []))) (p:=Lx (l.map aC)<| (∃(k:Nat),1=((k:Int)+1)/\(k+1<=l.length\/k=0)/\(List.range k).all (lV l)=true)/\ ∀(k:Nat),((k+1<=l.length\/k=0)/\(List.range k).all (lV l)=true)->Lm aC l/\Br (((k:Int)+1)<(l.length:Int)) (bK (((k:Int)+1) - 1)/\0<=(((k:Int)+1) - 1)/\Em aC l ((((k:Int)+1) - 1).toNat) fun e13=>0<=((k:Int)+1)/\Em aC l (k+1) fun e17=>yE e13 e17/\Br (0<=(cB e13 e17)) ((false)=(aDY l)/\True) (bK (((k:Int)+1)+1)/\ ∃(k' :Nat),(((k:Int)+1)+1)=(((k' :Nat):Int)+1)/\((k' +1<=l.length\/k' =0)/\(List.range k').all (lV l)=true)/\l.length - k' <l.length - k)) ((true)=(aDY l)/\True)) (by kernel_rfl) ?_;refine lx fun n0=>?_;refine⟨⟨0,rfl,.inr rfl,rfl⟩,fun k ⟨hk,ha⟩=>?_⟩;refine⟨aA8 _,dd (fun c0=>?_) fun c0=>?_⟩
 ·refine⟨⟨by omega,by omega⟩,by omega,rfl,by omega,fun e13 h13=>?_⟩;have i13:l[k]? =some e13:=by rw[<-h13];congr 1;omega
  refine⟨by omega,rfl,by omega,fun e17 h17=>?_⟩;refine⟨aLE _ _,dd (fun c1=>?_) fun c1=>?_⟩
  ·have hp:lV l k=false:=by rw[lV,bM i13,bM h17];simp;omega
   apply et1
   ·(rw[aDY,gZ (by omega) hp];done)
  ·have hp:lV l k=true:=by rw[lV,bM i13,bM h17];simp;omega
   refine⟨⟨by omega,by omega⟩,?_⟩;exact⟨k+1,rfl,⟨by omega,jJ ha hp⟩,by omega⟩
 ·apply et1
  ·(rw[aDY,show l.length - 1=k by omega,ha];done)
abbrev rE (t:aY):Prop:=Cn 194 [.agg [.str t.name,.int .i64 t.arity,.sl 91 1 (t.rows.map aC)]] (vB (aV t)) []
theorem yF (t:aY):rE t:=by
 refine cq Tryz.func194 (.len t.rows.length<| .loop Nat (Q1 Nat) ([4]++rg 8 10) [] (fun k=>[(8,vI (k:Int))]) (fun k=>[]) (fun k=>k<=t.rows.length/\(t.rows.take k).all (jU t.arity)=true) (fun k=>t.rows.length - k) (fun k=> .br (.elem _ aC t.rows (fun e10=> .call (vB (jU t.arity e10)) []<| .br (.fin []) (.back []))) (.call (vB (gD t.name)) []<| .br (.call (vB (eC t.arity (1:Int) (3:Int))) []<| .lit<| .br (.len t.rows.length<| .lit<| .lit<| .br (.call (vB (aDY t.rows)) []<| .fin []) (.fin [])) (.fin [])) (.fin [])))) (p:=Lx (t.rows.map aC)<| Lm aC t.rows/\((∃(k:Nat),0=(k:Int)/\k<=t.rows.length/\(t.rows.take k).all (jU t.arity)=true)/\ ∀(k:Nat),(k<=t.rows.length/\(t.rows.take k).all (jU t.arity)=true)->Br ((k:Int)<(t.rows.length:Int)) (0<=(k:Int)/\Em aC t.rows k fun e10=>aGT e10 t.arity/\Nr (jU t.arity e10) ((false)=(aV t)/\True) (bK ((k:Int)+1)/\ ∃(k' :Nat),((k:Int)+1)=(k' :Int)/\(k' <=t.rows.length/\(t.rows.take k').all (jU t.arity)=true)/\t.rows.length - k' <t.rows.length - k)) (yC t.name/\Bb (gD t.name) (eQ t.arity (1:Int) (3:Int)/\Bb (eC t.arity (1:Int) (3:Int)) (Lm aC t.rows/\Br ((t.rows.length:Int)<=8) (aGV t.rows/\(aDY t.rows)=(aV t)/\True) ((false)=(aV t)/\True)) ((false)=(aV t)/\True)) ((false)=(aV t)/\True)))) (by kernel_rfl) ?_;refine lx fun n0=>?_;refine⟨aA8 _,⟨0,rfl,aCC _,rfl⟩,fun k ⟨hk,ha⟩=>?_⟩;refine dd (fun c0=>?_) fun c0=>?_
 ·refine⟨by omega,rfl,by omega,fun e10 h10=>?_⟩;refine⟨aTV _ _,dm (fun c1=>?_) fun c1=>?_⟩
  ·apply et1
   ·(rw[aV,eJ h10 c1];rfl)
  ·refine⟨⟨by omega,by omega⟩,?_⟩;exact⟨k+1,rfl,⟨by omega,cG h10 ha c1⟩,by omega⟩
 ·have hall:=cY (by omega) ha;refine⟨aJc _,db (fun g21=>?_) fun g21=>?_⟩
  ·refine⟨iR _ _ _,db (fun g26=>?_) fun g26=>?_⟩
   ·refine⟨aA8 _,dd (fun g32=>?_) fun g32=>?_⟩
    ·refine⟨aTY _,?_,trivial⟩
     ·(simp[aV,hall, *];done)
    ·apply et1
     ·(simp[aV,hall, *];done)
   ·apply et1
    ·(simp[aV,hall, *];done)
  ·apply et1
   ·(simp[aV,hall, *];done)
abbrev oG (t:aY):Prop:=Cn 218 [.agg [.str t.name,.int .i64 t.arity,.sl 91 1 (t.rows.map aC)]] (vB (aV t)) []
theorem yG (t:aY):oG t:=by
 refine cq Tryz.func218 (.call (vB (gD t.name)) []<| .br (.fin []) (.call (vB (eC t.arity (1:Int) (3:Int))) []<| .lit<| .lit<| .br (.fin []) (.len t.rows.length<| .lit<| .lit<| .br (.fin []) (.loop Nat (Q1 Nat) ([3]++rg 20 35) [] (fun k=>[(3,vI (k:Int))]) (fun k=>[]) (fun k=>k<=t.rows.length/\(t.rows.take k).all (jU t.arity)=true/\(List.range (k - 1)).all (lV t.rows)=true) (fun k=>t.rows.length - k) (fun k=> .len t.rows.length<| .br (.elem _ aC t.rows (fun e30=> .call (vB (jU t.arity e30)) []<| .br (.fin []) (.lit<| .lit<| .br (.elem _ aC t.rows (fun e44=> .elem _ aC t.rows (fun e49=> .call (vI (cB e44 e49)) []<| .lit<| .lit<| .lit<| .lit<| .br (.fin []) (.back [])))) (.back [])))) (.fin [])))))) (p:=Lx (t.rows.map aC)<| yD t.name/\Nr (gD t.name) ((false)=(aV t)/\True) (eR t.arity (1:Int) (3:Int)/\Nr (eC t.arity (1:Int) (3:Int)) ((false)=(aV t)/\True) (Lm aC t.rows/\Br (8<(t.rows.length:Int)) ((false)=(aV t)/\True) ((∃(k:Nat),0=(k:Int)/\k<=t.rows.length/\(t.rows.take k).all (jU t.arity)=true/\(List.range (k - 1)).all (lV t.rows)=true)/\ ∀(k:Nat),(k<=t.rows.length/\(t.rows.take k).all (jU t.arity)=true/\(List.range (k - 1)).all (lV t.rows)=true)->Lm aC t.rows/\Br ((k:Int)<(t.rows.length:Int)) (0<=(k:Int)/\Em aC t.rows k fun e30=>aGU e30 t.arity/\Nr (jU t.arity e30) ((false)=(aV t)/\True) (Br (0<(k:Int)) (bK ((k:Int) - 1)/\0<=((k:Int) - 1)/\Em aC t.rows (((k:Int) - 1).toNat) fun e44=>0<=(k:Int)/\Em aC t.rows k fun e49=>fN e44 e49/\Br (0<=(cB e44 e49)) ((false)=(aV t)/\True) (bK ((k:Int)+1)/\ ∃(k' :Nat),((k:Int)+1)=(k' :Int)/\(k' <=t.rows.length/\(t.rows.take k').all (jU t.arity)=true/\(List.range (k' - 1)).all (lV t.rows)=true)/\t.rows.length - k' <t.rows.length - k)) (bK ((k:Int)+1)/\ ∃(k' :Nat),((k:Int)+1)=(k' :Int)/\(k' <=t.rows.length/\(t.rows.take k').all (jU t.arity)=true/\(List.range (k' - 1)).all (lV t.rows)=true)/\t.rows.length - k' <t.rows.length - k))) ((true)=(aV t)/\True))))) (by kernel_rfl) ?_;refine lx fun n0=>?_;refine⟨aJd _,dm (fun g8=>?_) fun g8=>?_⟩
 ·apply et1
  ·(simp[aV, *];done)
 ·refine⟨iS _ _ _,dm (fun g14=>?_) fun g14=>?_⟩
  ·apply et1
   ·(simp[aV, *];done)
  ·refine⟨aA8 _,dd (fun c0=>?_) fun c0=>?_⟩
   ·have h8:decide ((t.rows.length:Int)<=8)=false:=by simp;omega
    apply et1
    ·(rw[aV,h8];simp[*];done)
   ·have h8:decide ((t.rows.length:Int)<=8)=true:=by simp;omega
    refine⟨⟨0,rfl,aCC _,rfl,rfl⟩,fun k ⟨hk,ha,hs⟩=>?_⟩;refine⟨aA8 _,dd (fun c1=>?_) fun c1=>?_⟩
    ·refine⟨by omega,rfl,by omega,fun e30 h30=>?_⟩;refine⟨aTW _ _,dm (fun g36=>?_) fun g36=>?_⟩
     ·apply et1
      ·(rw[aV,eJ h30 g36];rfl)
     ·refine dd (fun g39=>?_) fun g39=>?_
      ·refine⟨⟨by omega,by omega⟩,by omega,rfl,by omega,fun e44 h44=>?_⟩;have i44:t.rows[k - 1]? =some e44:=by rw[<-h44];congr 1;omega
       refine⟨by omega,rfl,by omega,fun e49 h49=>?_⟩;refine⟨jA _ _,dd (fun c2=>?_) fun c2=>?_⟩
       ·have hp:lV t.rows (k - 1)=false:=by rw[lV,bM i44,show k - 1+1=k by omega,bM h49];simp;omega
        have hz:aDY t.rows=false:=gZ (by omega) hp;apply et1
        ·(rw[aV,h8,hz];simp[*];done)
       ·have hp:lV t.rows (k - 1)=true:=by rw[lV,bM i44,show k - 1+1=k by omega,bM h49];simp;omega
        have hs2:(List.range (k+1 - 1)).all (lV t.rows)=true:=by rw[show k+1 - 1=(k - 1)+1 by omega];exact jJ hs hp
        refine⟨⟨by omega,by omega⟩,?_⟩;exact⟨k+1,rfl,⟨by omega,cG h30 ha g36,hs2⟩,by omega⟩
      ·have hs2:(List.range (k+1 - 1)).all (lV t.rows)=true:=by rw[show k=0 by omega];rfl
       refine⟨⟨by omega,by omega⟩,?_⟩;exact⟨k+1,rfl,⟨by omega,cG h30 ha g36,hs2⟩,by omega⟩
    ·have hall:=cY (by omega) ha;have hz:aDY t.rows=true:=by rw[aDY,show t.rows.length - 1=k - 1 by omega,hs]
     apply et1
     ·(rw[aV,h8,hz];simp[*];done)
def aM3 (n:Int)(cols:List Int):Bool:=cols.all fun c=>eC c 0 (n - 1)
def sJ (r:List Int)(c:Int):Int:=r.getD c.toNat 0
def fH (r cols:List Int):List Int × Bool:=if aM3 r.length cols=true then (cols.map (sJ r),true) else ([],false)
theorem aC3 {r cols:List Int}(h:cols.all (fun c=>eC c 0 ((r.length:Int) - 1))=true):fH r cols=(cols.map (sJ r),true):=by rw[fH,if_pos (show aM3 _ _=true from h)]
theorem aPm {r cols:List Int}(h:cols.all (fun c=>eC c 0 ((r.length:Int) - 1))=false):fH r cols=([],false):=by rw[fH,if_neg (by rw[show aM3 _ _=false from h];decide)]
theorem aM4 {r:List Int}{c x:Int}(h:r[c.toNat]? =some x):sJ r c=x:=bM h
theorem aGW (r cols:List Int):(fH r cols).1.length<=cols.length:=by
 unfold fH;split<;>simp
def iM (b:Int)(cols:List Int)(i:Nat):Bool:=eC (cols.getD i 0) 0 b&&(decide (i=0) || decide (cols.getD (i - 1) 0<cols.getD i 0))
def dR (b:Int)(cols:List Int):Bool:=(List.range cols.length).all (iM b cols)
abbrev oH (r:List Int)(cols:List Int):AV × List (Nat × Rs):=(.tup [.own 0,vB ((fH r cols).2)],[(0,.arr 3 1 true ((fH r cols).1.map intD))])
abbrev rF (r:List Int)(cols:List Int):Prop:=Cn 207 [.one (.sl 3 1 (r.map intD)),.one (.sl 3 1 (cols.map intD))] (oH r cols).1 (oH r cols).2
theorem aC4 (r cols:List Int)(hl:cols.length<=1048576):rF r cols:=by
 refine cq Tryz.func207 (.len cols.length<| .loop (Nat × (List Int)) (Q2 Nat (List Int)) ([6,8,9]++rg 12 18) [900,2700,2800] (fun yy0=>[(12,vI (yy0.1:Int)),(6,.own 900)]) (fun yy0=>[(900,some (.arr 3 1 true (yy0.2.map intD)))]) (fun yy0=>yy0.1<=cols.length/\yy0.2=(cols.take yy0.1).map (sJ r)/\(cols.take yy0.1).all (fun c=>eC c 0 ((r.length:Int) - 1))=true) (fun yy0=>cols.length - yy0.1) (fun yy0=> .br (.elem _ intD cols (fun e14=> .len r.length<| .call (vB (eC e14 (0:Int) ((r.length:Int) - 1))) []<| .br (.fin []) (.elem _ intD r (fun e25=> .app Int intD yy0.2 ([e25]:List Int)<| .back [(900,2800)])))) (.fin [(0,900)]))) (p:=Lx (r.map intD)<| Lx (cols.map intD)<| Lm intD cols/\((∃(k:Nat) (out:List Int),0=(k:Int)/\[]=out.map intD/\k<=cols.length/\out=(cols.take k).map (sJ r)/\(cols.take k).all (fun c=>eC c 0 ((r.length:Int) - 1))=true)/\ ∀(k:Nat) (out:List Int),(k<=cols.length/\out=(cols.take k).map (sJ r)/\(cols.take k).all (fun c=>eC c 0 ((r.length:Int) - 1))=true)->Br ((k:Int)<(cols.length:Int)) (0<=(k:Int)/\Em intD cols k fun e14=>Lm intD r/\bK ((r.length:Int) - 1)/\eQ e14 (0:Int) ((r.length:Int) - 1)/\Nr (eC e14 (0:Int) ((r.length:Int) - 1)) ((false)=((fH r cols).2)/\[]=(fH r cols).1.map intD/\True) (0<=e14/\Em intD r ((e14).toNat) fun e25=>Ap intD out ([e25]:List Int) 8 (bK ((k:Int)+1)/\ ∃(k' :Nat) (out' :List Int),((k:Int)+1)=(k' :Int)/\(out++[e25]).map intD=out'.map intD/\(k' <=cols.length/\out' =(cols.take k').map (sJ r)/\(cols.take k').all (fun c=>eC c 0 ((r.length:Int) - 1))=true)/\cols.length - k' <cols.length - k))) ((true)=((fH r cols).2)/\out.map intD=(fH r cols).1.map intD/\True))) (by kernel_rfl) ?_;refine lx fun n0=>lx fun n1=>?_;refine⟨aA8 _,⟨0,([]:List Int),rfl,rfl,aCC _,rfl,rfl⟩,fun k out ⟨hk,ho,ha⟩=>?_⟩;refine dd (fun c0=>?_) fun c0=>?_
 ·refine⟨by omega,rfl,by omega,fun e14 h14=>?_⟩;refine⟨aA8 _,⟨by omega,by omega⟩,iR _ _ _,dm (fun c1=>?_) fun c1=>?_⟩
  ·apply et2<;>((rw[aPm (eJ h14 c1)]<;>rfl))
  ·have hb:=eA c1;refine⟨by omega,rfl,by omega,fun e25 h25=>?_⟩;refine ap ?_ (fun _=>rfl) (by simp[ho];omega);refine⟨⟨by omega,by omega⟩,?_⟩;exact⟨k+1,_,rfl,rfl,⟨by omega,by rw[ho,bQ h14,aKc,aKT,List.map_nil,aM4 h25],cG h14 ha c1⟩,by omega⟩
 ·apply et2<;>(first|(rw[aC3 (cY (by omega) ha),ho,aGj (by omega)]<;>rfl)|(rw[aC3 (cY (by omega) ha)]<;>rfl))
abbrev oI (r:List Int)(cols:List Int):AV × List (Nat × Rs):=(.tup [.own 0,vB ((fH r cols).2)],[(0,.arr 3 1 true ((fH r cols).1.map intD))])
abbrev rG (r:List Int)(cols:List Int):Prop:=Cn 244 [.one (.sl 3 1 (r.map intD)),.one (.sl 3 1 (cols.map intD))] (oI r cols).1 (oI r cols).2
theorem aC5 (r cols:List Int)(hl:cols.length<=1048576):rG r cols:=by
 refine cq Tryz.func244 (.loop (Nat × (List Int)) (Q2 Nat (List Int)) (rg 6 18++rg 25 10) [800,3300,3400] (fun yy0=>[(7,vI (yy0.1:Int)),(6,.own 800)]) (fun yy0=>[(800,some (.arr 3 1 true (yy0.2.map intD)))]) (fun yy0=>yy0.1<=cols.length/\yy0.2=(cols.take yy0.1).map (sJ r)/\(cols.take yy0.1).all (fun c=>eC c 0 ((r.length:Int) - 1))=true) (fun yy0=>cols.length - yy0.1) (fun yy0=> .len cols.length<| .br (.elem _ intD cols (fun e17=> .len r.length<| .call (vB (eC e17 (0:Int) ((r.length:Int) - 1))) []<| .br (.fin [(0,2400)]) (.elem _ intD cols (fun e29=> .elem _ intD r (fun e31=> .app Int intD yy0.2 ([e31]:List Int)<| .back [(800,3400)]))))) (.fin [(0,800)]))) (p:=Lx (r.map intD)<| Lx (cols.map intD)<| (∃(k:Nat) (out:List Int),0=(k:Int)/\[]=out.map intD/\k<=cols.length/\out=(cols.take k).map (sJ r)/\(cols.take k).all (fun c=>eC c 0 ((r.length:Int) - 1))=true)/\ ∀(k:Nat) (out:List Int),(k<=cols.length/\out=(cols.take k).map (sJ r)/\(cols.take k).all (fun c=>eC c 0 ((r.length:Int) - 1))=true)->Lm intD cols/\Br ((k:Int)<(cols.length:Int)) (0<=(k:Int)/\Em intD cols k fun e17=>Lm intD r/\bK ((r.length:Int) - 1)/\eR e17 (0:Int) ((r.length:Int) - 1)/\Nr (eC e17 (0:Int) ((r.length:Int) - 1)) ((false)=((fH r cols).2)/\[]=(fH r cols).1.map intD/\True) (0<=(k:Int)/\Em intD cols k fun e29=>0<=e29/\Em intD r ((e29).toNat) fun e31=>Ap intD out ([e31]:List Int) 8 (bK ((k:Int)+1)/\ ∃(k' :Nat) (out' :List Int),((k:Int)+1)=(k' :Int)/\(out++[e31]).map intD=out'.map intD/\(k' <=cols.length/\out' =(cols.take k').map (sJ r)/\(cols.take k').all (fun c=>eC c 0 ((r.length:Int) - 1))=true)/\cols.length - k' <cols.length - k))) ((true)=((fH r cols).2)/\out.map intD=(fH r cols).1.map intD/\True)) (by kernel_rfl) ?_;refine lx fun n0=>lx fun n1=>?_;refine⟨⟨0,([]:List Int),rfl,rfl,aCC _,rfl,rfl⟩,fun k out ⟨hk,ho,ha⟩=>?_⟩;refine⟨aA8 _,dd (fun c0=>?_) fun c0=>?_⟩
 ·refine⟨by omega,rfl,by omega,fun e17 h17=>?_⟩;refine⟨aA8 _,⟨by omega,by omega⟩,iS _ _ _,dm (fun c1=>?_) fun c1=>?_⟩
  ·apply et2<;>((rw[aPm (eJ h17 c1)]<;>rfl))
  ·have hb:=eA c1;refine⟨by omega,rfl,by omega,fun e29 h29=>?_⟩;obtain rfl:=(aW h17 h29).symm;refine⟨by omega,rfl,by omega,fun e31 h31=>?_⟩;refine ap ?_ (fun _=>rfl) (by simp[ho];omega);refine⟨⟨by omega,by omega⟩,?_⟩;exact⟨k+1,_,rfl,rfl,⟨by omega,by rw[ho,bQ h17,aKc,aKT,List.map_nil,aM4 h31],cG h17 ha c1⟩,by omega⟩
 ·apply et2<;>(first|(rw[aC3 (cY (by omega) ha),ho,aGj (by omega)]<;>rfl)|(rw[aC3 (cY (by omega) ha)]<;>rfl))
abbrev yH (cols:List Int)(a:Int):Prop:=Cn 246 [.one (.sl 3 1 (cols.map intD)),.one (.int .i64 a)] (vB (dR (a - 1) cols)) []
theorem aJg (cols:List Int)(a:Int)(ha:1<=a/\a<=3):yH cols a:=by
 refine cq Tryz.func246 (.len cols.length<| .loop Nat (Q1 Nat) ([5,6]++rg 9 24) [] (fun k=>[(9,vI (k:Int))]) (fun k=>[]) (fun k=>k<=cols.length/\(List.range k).all (iM (a - 1) cols)=true) (fun k=>cols.length - k) (fun k=> .br (.elem _ intD cols (fun e12=> .call (vB (eC e12 (0:Int) (a - 1))) []<| .br (.fin []) (.lit<| .lit<| .br (.elem _ intD cols (fun e26=> .lit<| .lit<| .lit<| .lit<| .lit<| .lit<| .br (.fin []) (.back []))) (.back [])))) (.fin []))) (p:=Lx (cols.map intD)<| Lm intD cols/\((∃(k:Nat),0=(k:Int)/\k<=cols.length/\(List.range k).all (iM (a - 1) cols)=true)/\ ∀(k:Nat),(k<=cols.length/\(List.range k).all (iM (a - 1) cols)=true)->Br ((k:Int)<(cols.length:Int)) (0<=(k:Int)/\Em intD cols k fun e12=>bK (a - 1)/\eQ e12 (0:Int) (a - 1)/\Nr (eC e12 (0:Int) (a - 1)) ((false)=(dR (a - 1) cols)/\True) (Br (0<(k:Int)) (bK ((k:Int) - 1)/\0<=((k:Int) - 1)/\Em intD cols (((k:Int) - 1).toNat) fun e26=>Br (e12<=e26) ((false)=(dR (a - 1) cols)/\True) (bK ((k:Int)+1)/\ ∃(k' :Nat),((k:Int)+1)=(k' :Int)/\(k' <=cols.length/\(List.range k').all (iM (a - 1) cols)=true)/\cols.length - k' <cols.length - k)) (bK ((k:Int)+1)/\ ∃(k' :Nat),((k:Int)+1)=(k' :Int)/\(k' <=cols.length/\(List.range k').all (iM (a - 1) cols)=true)/\cols.length - k' <cols.length - k))) ((true)=(dR (a - 1) cols)/\True))) (by kernel_rfl) ?_;refine lx fun n0=>?_;refine⟨aA8 _,⟨0,rfl,aCC _,rfl⟩,fun k ⟨hk,hv⟩=>?_⟩;refine dd (fun c0=>?_) fun c0=>?_
 ·refine⟨by omega,rfl,by omega,fun e12 h12=>?_⟩;refine⟨⟨by omega,by omega⟩,iR _ _ _,dm (fun g19=>?_) fun g19=>?_⟩
  ·have hp:iM (a - 1) cols k=false:=by rw[iM,bM h12,g19];rfl
   apply et1
   ·(rw[dR,gZ (by omega) hp];done)
  ·refine dd (fun g22=>?_) fun g22=>?_
   ·refine⟨⟨by omega,by omega⟩,by omega,rfl,by omega,fun e26 h26=>?_⟩;have i26:cols[k - 1]? =some e26:=by rw[<-h26];congr 1;omega
    refine dd (fun c1=>?_) fun c1=>?_
    ·have hp:iM (a - 1) cols k=false:=by rw[iM,bM h12,bM i26,show decide (e26<e12)=false by simp;omega,show decide (k=0)=false by simp;omega];simp
     apply et1
     ·(rw[dR,gZ (by omega) hp];done)
    ·have hp:iM (a - 1) cols k=true:=by rw[iM,bM h12,g19,bM i26,show decide (e26<e12)=true by simp;omega];simp
     refine⟨⟨by omega,by omega⟩,?_⟩;exact⟨k+1,rfl,⟨by omega,jJ hv hp⟩,by omega⟩
   ·have hp:iM (a - 1) cols k=true:=by rw[iM,bM h12,g19,show decide (k=0)=true by simp;omega];rfl
    refine⟨⟨by omega,by omega⟩,?_⟩;exact⟨k+1,rfl,⟨by omega,jJ hv hp⟩,by omega⟩
 ·apply et1
  ·(rw[dR,show cols.length=k by omega,hv];done)
theorem cA {t:aY}(h:aV t=true):1<=t.arity/\t.arity<=3/\t.rows.length<=8:=by
 simp only[aV,aB4,aTb] at h;have:=eA h.2.2.1;omega
theorem aGX {t:aY}(h:aV t=true):IntKind.i64.wrap (t.arity - 1)=t.arity - 1:=by
 have:=cA h;exact IntWalk.i64_in _ ⟨by omega,by omega⟩
theorem aTZ {t:aY}{cols:List Int}(h:dR (IntKind.i64.wrap (t.arity - 1)) cols=false):(aV t&&dR (t.arity - 1) cols)=false:=by
 cases e:aV t with
 | false=>rfl
 | true=>rw[aGX e] at h;rw[h];rfl
theorem aWI {t:aY}{cols:List Int}(h:dR (IntKind.i64.wrap (t.arity - 1)) cols=true):(aV t&&dR (t.arity - 1) cols)=aV t:=by
 cases e:aV t with
 | false=>rfl
 | true=>rw[aGX e] at h;rw[h];rfl
abbrev yI (t:aY)(cols:List Int):Prop:=Cn 243 [.agg [.str t.name,.int .i64 t.arity,.sl 91 1 (t.rows.map aC)],.one (.sl 3 1 (cols.map intD))] (vB (aV t&&dR (t.arity - 1) cols)) []
theorem aJh (t:aY)(cols:List Int):yI t cols:=by
 refine cq Tryz.func243 (.loop Nat (Q1 Nat) (rg 5 32) [] (fun k=>[(5,vI (k:Int))]) (fun k=>[]) (fun k=>k<=cols.length/\(List.range k).all (iM (IntKind.i64.wrap (t.arity - 1)) cols)=true) (fun k=>cols.length - k) (fun k=> .len cols.length<| .br (.elem _ intD cols (fun e14=> .raw<| .call (vB (eC e14 (0:Int) (IntKind.i64.wrap (t.arity - 1)))) []<| .br (.fin []) (.lit<| .lit<| .br (.elem _ intD cols (fun e28=> .elem _ intD cols (fun e32=> .lit<| .lit<| .lit<| .lit<| .lit<| .br (.fin []) (.back [])))) (.back [])))) (.call (vB (aV t)) []<| .fin []))) (p:=Lx (t.rows.map aC)<| Lx (cols.map intD)<| (∃(k:Nat),0=(k:Int)/\k<=cols.length/\(List.range k).all (iM (IntKind.i64.wrap (t.arity - 1)) cols)=true)/\ ∀(k:Nat),(k<=cols.length/\(List.range k).all (iM (IntKind.i64.wrap (t.arity - 1)) cols)=true)->Lm intD cols/\Br ((k:Int)<(cols.length:Int)) (0<=(k:Int)/\Em intD cols k fun e14=>eR e14 (0:Int) (IntKind.i64.wrap (t.arity - 1))/\Nr (eC e14 (0:Int) (IntKind.i64.wrap (t.arity - 1))) ((false)=(aV t&&dR (t.arity - 1) cols)/\True) (Br (0<(k:Int)) (bK ((k:Int) - 1)/\0<=((k:Int) - 1)/\Em intD cols (((k:Int) - 1).toNat) fun e28=>0<=(k:Int)/\Em intD cols k fun e32=>Br (e32<=e28) ((false)=(aV t&&dR (t.arity - 1) cols)/\True) (bK ((k:Int)+1)/\ ∃(k' :Nat),((k:Int)+1)=(k' :Int)/\(k' <=cols.length/\(List.range k').all (iM (IntKind.i64.wrap (t.arity - 1)) cols)=true)/\cols.length - k' <cols.length - k)) (bK ((k:Int)+1)/\ ∃(k' :Nat),((k:Int)+1)=(k' :Int)/\(k' <=cols.length/\(List.range k').all (iM (IntKind.i64.wrap (t.arity - 1)) cols)=true)/\cols.length - k' <cols.length - k))) (oG t/\(aV t)=(aV t&&dR (t.arity - 1) cols)/\True)) (by kernel_rfl) ?_;refine lx fun n0=>lx fun n1=>?_;refine⟨⟨0,rfl,aCC _,rfl⟩,fun k ⟨hk,hv⟩=>?_⟩;refine⟨aA8 _,dd (fun c0=>?_) fun c0=>?_⟩
 ·refine⟨by omega,rfl,by omega,fun e14 h14=>?_⟩;refine⟨iS _ _ _,dm (fun g21=>?_) fun g21=>?_⟩
  ·have hp:iM (IntKind.i64.wrap (t.arity - 1)) cols k=false:=by rw[iM,bM h14,g21];rfl
   apply et1
   ·(rw[aTZ (by rw[dR,gZ (by omega) hp])];done)
  ·refine dd (fun g24=>?_) fun g24=>?_
   ·refine⟨⟨by omega,by omega⟩,by omega,rfl,by omega,fun e28 h28=>?_⟩;have i28:cols[k - 1]? =some e28:=by rw[<-h28];congr 1;omega
    refine⟨by omega,rfl,by omega,fun e32 h32=>?_⟩;obtain rfl:=(aW h14 h32).symm;refine dd (fun c1=>?_) fun c1=>?_
    ·have hp:iM (IntKind.i64.wrap (t.arity - 1)) cols k=false:=by rw[iM,bM h14,bM i28,show decide (e28<e14)=false by simp;omega,show decide (k=0)=false by simp;omega];simp
     apply et1
     ·(rw[aTZ (by rw[dR,gZ (by omega) hp])];done)
    ·have hp:iM (IntKind.i64.wrap (t.arity - 1)) cols k=true:=by rw[iM,bM h14,g21,bM i28,show decide (e28<e14)=true by simp;omega];simp
     refine⟨⟨by omega,by omega⟩,?_⟩;exact⟨k+1,rfl,⟨by omega,jJ hv hp⟩,by omega⟩
   ·have hp:iM (IntKind.i64.wrap (t.arity - 1)) cols k=true:=by rw[iM,bM h14,g21,show decide (k=0)=true by simp;omega];rfl
    refine⟨⟨by omega,by omega⟩,?_⟩;exact⟨k+1,rfl,⟨by omega,jJ hv hp⟩,by omega⟩
 ·refine⟨yG t,?_,trivial⟩
  ·(rw[aWI (by rw[dR,show cols.length=k by omega,hv])];done)
end Go.Proofs.YtlidmoeecphbmaaGreat
