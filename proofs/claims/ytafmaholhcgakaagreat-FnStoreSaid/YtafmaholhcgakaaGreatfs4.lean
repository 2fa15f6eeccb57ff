/-
  Contracts and plain laws, joined: part 5.
-/
import Derived.Test.YtafmaholhcgakaaGreatfs3
import Derived.IntWalk
namespace Go.Proofs.YtafmaholhcgakaaGreat
open Go.ChangeShapes Go.WideShapes Go.ChangeAt Go.RowKit
set_option linter.unusedVariables false
set_option linter.unusedSimpArgs false
set_option maxRecDepth 100000
set_option maxHeartbeats 4000000
def bM:List Int->List Int->Int
 | [],[]=>0
 | [],_::_=> -1
 | _::_,[]=>1
 | a::l,b::m=>if a<b then -1 else if b<a then 1 else bM l m
theorem cQ: ∀{l m:List Int},bM l m=0↔l=m
 | [],[]=>by simp[bM]
 | [],_::_=>by simp[bM]
 | _::_,[]=>by simp[bM]
 | a::l,b::m=>by
   unfold bM;split
   ·simp;omega
   split
   ·simp;omega
   rw[cQ];have:a=b:=by omega
   simp[this]
theorem dS {α:Type}{l:List α}{k:Nat}{x:α}(h:l[k]? =some x):l.drop k=x::l.drop (k+1):=by
 obtain⟨hk,rfl⟩:=aCk.1 h;exact List.drop_eq_getElem_cons hk
theorem oW {α:Type}{l:List α}{k:Nat}(h:l.length<=k):l.drop k= []:=List.drop_eq_nil_of_le h
theorem hZ {l m:List Int}{k:Nat}(hk:k<=l.length/\k<=m.length)(hs: ¬k<l.length\/ ¬k<m.length):bM (l.drop k) (m.drop k)=if l.length<m.length then -1 else if m.length<l.length then 1 else 0:=by
 by_cases h1:k<l.length
 ·obtain⟨x,hx⟩:=cT h1;rw[dS hx,oW (l:=m) (by omega),bM,if_neg (by omega),if_pos (by omega)]
 rw[oW (l:=l) (by omega)];by_cases h2:k<m.length
 ·obtain⟨x,hx⟩:=cT h2;rw[dS hx,bM,if_pos (by omega)]
 rw[oW (l:=m) (by omega),bM,if_neg (by omega),if_neg (by omega)]
abbrev dA (l:List Int)(m:List Int):Prop:=Cn 47 [.one (.sl 3 1 (l.map intD)),.one (.sl 3 1 (m.map intD))] (vI (bM l m)) []
theorem eI (l m:List Int):dA l m:=by
 refine cq Tryz.func47 (.loop Nat (Q1 Nat) (rg 5 31) [] (fun k=>[(5,vI (k:Int))]) (fun k=>[]) (fun k=>(k<=l.length/\k<=m.length)/\bM (l.drop k) (m.drop k)=bM l m) (fun k=>l.length - k) (fun k=> .len l.length<| .br (.len m.length<| .lit<| .lit<| .br (.elem _ intD l (fun e20=> .elem _ intD m (fun e24=> .br (.fin []) (.elem _ intD l (fun e29=> .elem _ intD m (fun e33=> .br (.fin []) (.back []))))))) (.len l.length<| .len m.length<| .br (.fin []) (.len l.length<| .len m.length<| .br (.fin []) (.fin [])))) (.len l.length<| .len m.length<| .br (.fin []) (.len l.length<| .len m.length<| .br (.fin []) (.fin []))))) (p:=Lx (l.map intD)<| Lx (m.map intD)<| (∃(k:Nat),0=(k:Int)/\(k<=l.length/\k<=m.length)/\bM (l.drop k) (m.drop k)=bM l m)/\ ∀(k:Nat),((k<=l.length/\k<=m.length)/\bM (l.drop k) (m.drop k)=bM l m)->Lm intD l/\Br ((k:Int)<(l.length:Int)) (Lm intD m/\Br ((k:Int)<(m.length:Int)) (0<=(k:Int)/\Em intD l k fun e20=>0<=(k:Int)/\Em intD m k fun e24=>Br (e20<e24) ((-1:Int)=(bM l m)/\True) (0<=(k:Int)/\Em intD l k fun e29=>0<=(k:Int)/\Em intD m k fun e33=>Br (e33<e29) (1=(bM l m)/\True) (cW ((k:Int)+1)/\ ∃(k' :Nat),((k:Int)+1)=(k' :Int)/\((k' <=l.length/\k' <=m.length)/\bM (l.drop k') (m.drop k')=bM l m)/\l.length - k' <l.length - k))) (Lm intD l/\Lm intD m/\Br ((l.length:Int)<(m.length:Int)) ((-1:Int)=(bM l m)/\True) (Lm intD l/\Lm intD m/\Br ((m.length:Int)<(l.length:Int)) (1=(bM l m)/\True) (0=(bM l m)/\True)))) (Lm intD l/\Lm intD m/\Br ((l.length:Int)<(m.length:Int)) ((-1:Int)=(bM l m)/\True) (Lm intD l/\Lm intD m/\Br ((m.length:Int)<(l.length:Int)) (1=(bM l m)/\True) (0=(bM l m)/\True)))) (by kernel_rfl) ?_;refine lx fun n0=>lx fun n1=>?_;refine⟨⟨0,rfl,⟨aAd _,aAd _⟩,rfl⟩,fun k ⟨hk,hv⟩=>?_⟩;refine⟨aAK _,dd (fun g10=>?_) fun g10=>?_⟩
 ·refine⟨aAK _,dd (fun c0=>?_) fun c0=>?_⟩
  ·obtain⟨x,hx⟩:=cT (l:=l) (k:=k) (by omega);obtain⟨y,hy⟩:=cT (l:=m) (k:=k) (by omega);have hd:bM l m=if x<y then -1 else if y<x then 1 else bM (l.drop (k+1)) (m.drop (k+1)):=by rw[<-hv,dS hx,dS hy,bM]
   refine⟨by omega,rfl,by omega,fun e20 h20=>?_⟩;obtain rfl:=(bA hx h20).symm;refine⟨by omega,rfl,by omega,fun e24 h24=>?_⟩;obtain rfl:=(bA hy h24).symm;refine dd (fun c1=>?_) fun c1=>?_
   ·apply et1
    ·(rw[hd,if_pos c1];done)
   ·refine⟨by omega,rfl,by omega,fun e29 h29=>?_⟩;obtain rfl:=(bA hx h29).symm;refine⟨by omega,rfl,by omega,fun e33 h33=>?_⟩;obtain rfl:=(bA hy h33).symm;refine dd (fun c2=>?_) fun c2=>?_
    ·apply et1
     ·(rw[hd,if_neg c1,if_pos c2];done)
    ·refine⟨⟨by omega,by omega⟩,?_⟩;exact⟨k+1,rfl,⟨by omega,by rw[hd,if_neg c1,if_neg c2]⟩,by omega⟩
  ·refine⟨aAK _,aAK _,dd (fun c3=>?_) fun c3=>?_⟩
   ·apply et1
    ·(rw[<-hv,hZ hk (by omega),if_pos (by omega)];done)
   ·refine⟨aAK _,aAK _,dd (fun c4=>?_) fun c4=>?_⟩
    ·apply et1
     ·(rw[<-hv,hZ hk (by omega),if_neg (by omega),if_pos (by omega)];done)
    ·apply et1
     ·(rw[<-hv,hZ hk (by omega),if_neg (by omega),if_neg (by omega)];done)
 ·refine⟨aAK _,aAK _,dd (fun c3=>?_) fun c3=>?_⟩
  ·apply et1
   ·(rw[<-hv,hZ hk (by omega),if_pos (by omega)];done)
  ·refine⟨aAK _,aAK _,dd (fun c4=>?_) fun c4=>?_⟩
   ·apply et1
    ·(rw[<-hv,hZ hk (by omega),if_neg (by omega),if_pos (by omega)];done)
   ·apply et1
    ·(rw[<-hv,hZ hk (by omega),if_neg (by omega),if_neg (by omega)];done)
theorem aPF {x y:aR}(h1:x.columns=y.columns)(h2:x.values=y.values)(h3:x.counts=y.counts):x=y:=by
 obtain⟨a,b,c⟩:=x;obtain⟨d,e,f⟩:=y;simp at h1 h2 h3;subst h1 h2 h3;rfl
abbrev uJ (a:aQ)(b:aQ):Prop:=Cn 103 [.agg [.str a.name,.int .i64 a.arity,.int .i64 a.rowCount,.sl 138 3 (a.groups.map aM)],.agg [.str b.name,.int .i64 b.arity,.int .i64 b.rowCount,.sl 138 3 (b.groups.map aM)]] (vB (decide (a=b))) []
theorem aFI (a b:aQ)(ha:dW a<=1048576):uJ a b:=by
 refine cq Tryz.func103 (.br (.fin []) (.lit<| .lit<| .lit<| .lit<| .lit<| .br (.fin []) (.lit<| .lit<| .lit<| .lit<| .lit<| .br (.fin []) (.len a.groups.length<| .len b.groups.length<| .lit<| .lit<| .br (.fin []) (.loop Nat (Q1 Nat) ([5,6,7,8]++rg 37 59) [600,700] (fun i=>[(5,vI (i:Int))]) (fun i=>[]) (fun i=>i<=a.groups.length/\a.groups.take i=b.groups.take i) (fun i=>a.groups.length - i) (fun i=> .len a.groups.length<| .br (.elem _ aM a.groups (fun e47=> .elem _ aM b.groups (fun e52=> .call (vI (bM e47.columns e52.columns)) []<| .br (.fin []) (.call (vI (bM e47.counts e52.counts)) []<| .lit<| .lit<| .br (.fin []) (.len e47.values.length<| .len e52.values.length<| .lit<| .lit<| .br (.fin []) (.loop Nat (Q1 Nat) ([8]++rg 77 19) [] (fun k=>[(8,vI (k:Int))]) (fun k=>[]) (fun k=>k<=e47.values.length/\e47.values.take k=e52.values.take k) (fun k=>e47.values.length - k) (fun k=> .len e47.values.length<| .br (.elem _ aE e47.values (fun e87=> .elem _ aE e52.values (fun e92=> .call (vI (bM e87 e92)) []<| .br (.fin []) (.back [])))) (.back [])))))))) (.fin []))))))) (p:=Lx (a.groups.map aM)<| Lx (b.groups.map aM)<| Nr (a.name.toList==b.name.toList) ((false)=(decide (a=b))/\True) (Nb (a.arity=b.arity) ((false)=(decide (a=b))/\True) (Nb (a.rowCount=b.rowCount) ((false)=(decide (a=b))/\True) (Lm aM a.groups/\(Lm aM b.groups/\Nb ((a.groups.length:Int)=(b.groups.length:Int)) ((false)=(decide (a=b))/\True) ((∃(i:Nat),0=(i:Int)/\i<=a.groups.length/\a.groups.take i=b.groups.take i)/\ ∀(i:Nat),(i<=a.groups.length/\a.groups.take i=b.groups.take i)->Lm aM a.groups/\Br ((i:Int)<(a.groups.length:Int)) (0<=(i:Int)/\Em aM a.groups i fun e47=>0<=(i:Int)/\Em aM b.groups i fun e52=>dA e47.columns e52.columns/\Nb ((bM e47.columns e52.columns)=0) ((false)=(decide (a=b))/\True) (dA e47.counts e52.counts/\Nb ((bM e47.counts e52.counts)=0) ((false)=(decide (a=b))/\True) (Lm aE e47.values/\(Lm aE e52.values/\Nb ((e47.values.length:Int)=(e52.values.length:Int)) ((false)=(decide (a=b))/\True) ((∃(k:Nat),0=(k:Int)/\k<=e47.values.length/\e47.values.take k=e52.values.take k)/\ ∀(k:Nat),(k<=e47.values.length/\e47.values.take k=e52.values.take k)->Lm aE e47.values/\Br ((k:Int)<(e47.values.length:Int)) (0<=(k:Int)/\Em aE e47.values k fun e87=>0<=(k:Int)/\Em aE e52.values k fun e92=>dA e87 e92/\Nb ((bM e87 e92)=0) ((false)=(decide (a=b))/\True) (cW ((k:Int)+1)/\ ∃(k' :Nat),((k:Int)+1)=(k' :Int)/\(k' <=e47.values.length/\e47.values.take k' =e52.values.take k')/\e47.values.length - k' <e47.values.length - k)) (cW ((i:Int)+1)/\ ∃(i' :Nat),((i:Int)+1)=(i' :Int)/\(i' <=a.groups.length/\a.groups.take i' =b.groups.take i')/\a.groups.length - i' <a.groups.length - i)))))) ((true)=(decide (a=b))/\True))))))) (by kernel_rfl) ?_;refine lx fun n0=>lx fun n1=>?_;refine dm (fun g14=>?_) fun g14=>?_
 ·apply et1
  ·(rw[fB];simp_all [cZ];done)
 ·refine dn (fun g21=>?_) fun g21=>?_
  ·apply et1
   ·(rw[fB];simp_all [cZ];done)
  ·refine dn (fun g28=>?_) fun g28=>?_
   ·apply et1
    ·(rw[fB];simp_all [cZ];done)
   ·refine⟨aAK _,aAK _,dn (fun c0=>?_) fun c0=>?_⟩
    ·have hne: ¬a=b:=fun e=>c0 (by rw[e]);apply et1
     ·(simp[hne];done)
    ·have hl:a.groups.length=b.groups.length:=by omega
     refine⟨⟨0,rfl,aAd _,rfl⟩,fun i ⟨hi,ht⟩=>?_⟩;refine⟨aAK _,dd (fun c1=>?_) fun c1=>?_⟩
     ·refine⟨by omega,rfl,by omega,fun e47 h47=>?_⟩;have q1:=nL h47;have q2:dW a=a.name.size+jK a.groups:=rfl;have q3:iF e47=fL e47.columns+cM e47.values+fL e47.counts:=rfl;have q4:=eV e47.values;refine⟨by omega,rfl,by omega,fun e52 h52=>?_⟩;refine⟨eI _ _,dn (fun g60=>?_) fun g60=>?_⟩
      ·have hne: ¬a=b:=fun e=>by subst e;have q:=bA h47 h52;subst q;exact g60 (cQ.2 rfl)
       apply et1
       ·(simp[hne];done)
      ·refine⟨eI _ _,dn (fun g68=>?_) fun g68=>?_⟩
       ·have hne: ¬a=b:=fun e=>by subst e;have q:=bA h47 h52;subst q;exact g68 (cQ.2 rfl)
        apply et1
        ·(simp[hne];done)
       ·refine⟨aAK _,aAK _,dn (fun c2=>?_) fun c2=>?_⟩
        ·have hne: ¬a=b:=fun e=>by subst e;have q:=bA h47 h52;subst q;exact c2 rfl
         apply et1
         ·(simp[hne];done)
        ·refine⟨⟨0,rfl,aAd _,rfl⟩,fun k ⟨hk,hv⟩=>?_⟩;refine⟨aAK _,dd (fun c3=>?_) fun c3=>?_⟩
         ·refine⟨by omega,rfl,by omega,fun e87 h87=>?_⟩;refine⟨by omega,rfl,by omega,fun e92 h92=>?_⟩;refine⟨eI _ _,dn (fun c4=>?_) fun c4=>?_⟩
          ·have hne: ¬a=b:=fun e=>by subst e;have q:=bA h47 h52;subst q;have q:=bA h87 h92;subst q;exact c4 (cQ.2 rfl)
           apply et1
           ·(simp[hne];done)
          ·refine⟨⟨by omega,by omega⟩,?_⟩;exact⟨k+1,rfl,⟨by omega,eW h87 (by rw[h92,cQ.1 c4]) hv⟩,by omega⟩
         ·have hxy:e52=e47:=(aPF (cQ.1 g60) (dB (by omega) (by omega) hv) (cQ.1 g68)).symm;refine⟨⟨by omega,by omega⟩,?_⟩;exact⟨i+1,rfl,⟨by omega,eW h47 (by rw[h52,hxy]) ht⟩,by omega⟩
     ·have hg:=dB (by omega) hl ht;apply et1
      ·(rw[fB];simp_all [cZ];done)
abbrev sG (a:dI)(b:dI):Prop:=Cn 45 [.agg [.int .i64 a.version,.sl 91 4 (a.tables.map aC)],.agg [.int .i64 b.version,.sl 91 4 (b.tables.map aC)]] (vB (decide (a=b))) []
theorem aC1 (a b:dI)(ha:cI a<=1048576):sG a b:=by
 refine cq Tryz.func45 (.br (.fin []) (.len a.tables.length<| .len b.tables.length<| .lit<| .lit<| .br (.fin []) (.loop Nat (Q1 Nat) ([5]++rg 20 19) [] (fun k=>[(5,vI (k:Int))]) (fun k=>[]) (fun k=>k<=a.tables.length/\a.tables.take k=b.tables.take k) (fun k=>a.tables.length - k) (fun k=> .len a.tables.length<| .br (.elem _ aC a.tables (fun e30=> .elem _ aC b.tables (fun e35=> .call (vB (decide (e30=e35))) []<| .br (.fin []) (.back [])))) (.fin []))))) (p:=Lx (a.tables.map aC)<| Lx (b.tables.map aC)<| Nb (a.version=b.version) ((false)=(decide (a=b))/\True) (Lm aC a.tables/\(Lm aC b.tables/\Nb ((a.tables.length:Int)=(b.tables.length:Int)) ((false)=(decide (a=b))/\True) ((∃(k:Nat),0=(k:Int)/\k<=a.tables.length/\a.tables.take k=b.tables.take k)/\ ∀(k:Nat),(k<=a.tables.length/\a.tables.take k=b.tables.take k)->Lm aC a.tables/\Br ((k:Int)<(a.tables.length:Int)) (0<=(k:Int)/\Em aC a.tables k fun e30=>0<=(k:Int)/\Em aC b.tables k fun e35=>uJ e30 e35/\Nb (e30=e35) ((false)=(decide (a=b))/\True) (cW ((k:Int)+1)/\ ∃(k' :Nat),((k:Int)+1)=(k' :Int)/\(k' <=a.tables.length/\a.tables.take k' =b.tables.take k')/\a.tables.length - k' <a.tables.length - k)) ((true)=(decide (a=b))/\True))))) (by kernel_rfl) ?_;refine lx fun n0=>lx fun n1=>?_;have hS:cI a=fA a.tables:=rfl;refine dn (fun g11=>?_) fun g11=>?_
 ·apply et1
  ·(rw[mO];simp_all;done)
 ·refine⟨aAK _,aAK _,dn (fun c0=>?_) fun c0=>?_⟩
  ·have hne: ¬a=b:=fun e=>c0 (by rw[e]);apply et1
   ·(simp[hne];done)
  ·have hl:a.tables.length=b.tables.length:=by omega
   refine⟨⟨0,rfl,aAd _,rfl⟩,fun k ⟨hk,ht⟩=>?_⟩;refine⟨aAK _,dd (fun c1=>?_) fun c1=>?_⟩
   ·refine⟨by omega,rfl,by omega,fun e30 h30=>?_⟩;refine⟨by omega,rfl,by omega,fun e35 h35=>?_⟩;refine⟨aFI _ _ (by have:=nM h30;omega),dn (fun c2=>?_) fun c2=>?_⟩
    ·have hne: ¬a=b:=fun e=>by subst e;exact c2 (bA h35 h30)
     apply et1
     ·(simp[hne];done)
    ·refine⟨⟨by omega,by omega⟩,?_⟩;exact⟨k+1,rfl,⟨by omega,eW h30 (by rw[h35,c2]) ht⟩,by omega⟩
   ·have hg:=dB (by omega) hl ht;apply et1
    ·(rw[mO];simp_all;done)
abbrev iP (n:Int)(a:Int)(b:Int):Prop:=Cn 50 [.one (.int .i64 n),.one (.int .i64 a),.one (.int .i64 b)] (vB (gZ n a b)) []
theorem nT (n a b:Int):iP n a b:=by
 refine cq Tryz.func50 (.br (.fin []) (.fin [])) (p:=Br (a<=n) ((decide (n<=b))=(gZ n a b)/\True) ((false)=(gZ n a b)/\True)) (by kernel_rfl) ?_;refine dd (fun g10=>?_) fun g10=>?_
 ·apply et1
  ·(simp[gZ,g10];done)
 ·apply et1
  ·(simp[gZ,g10];done)
abbrev iQ (n:Int)(a:Int)(b:Int):Prop:=Cn 53 [.one (.int .i64 n),.one (.int .i64 a),.one (.int .i64 b)] (vB (gZ n a b)) []
theorem nU (n a b:Int):iQ n a b:=by
 refine cq Tryz.func53 (.br (.fin []) (.fin [])) (p:=Br (a<=n) ((decide (n<=b))=(gZ n a b)/\True) ((false)=(gZ n a b)/\True)) (by kernel_rfl) ?_;refine dd (fun g10=>?_) fun g10=>?_
 ·apply et1
  ·(simp[gZ,g10];done)
 ·apply et1
  ·(simp[gZ,g10];done)
def zH (v:Int):Bool:=gZ v 0 9
def fG (n:Int)(r:List Int):Bool:=r.all zH&&decide ((r.length:Int)=n)
def gU (s:ByteArray):Bool:=decide ((s.size:Int)=1)&&(decide (97<=sB s 0)&&decide (sB s 0<=122))
abbrev xL (r:List Int)(n:Int):Prop:=Cn 141 [.one (.sl 3 1 (r.map intD)),.one (.int .i64 n)] (vB (fG n r)) []
theorem aGT (r:List Int)(n:Int):xL r n:=by
 refine cq Tryz.func141 (.len r.length<| .loop Nat (Q1 Nat) ([6]++rg 9 8) [] (fun k=>[(9,vI (k:Int))]) (fun k=>[]) (fun k=>k<=r.length/\(r.take k).all zH=true) (fun k=>r.length - k) (fun k=> .br (.elem _ intD r (fun e11=> .call (vB (gZ e11 (0:Int) (9:Int))) []<| .br (.fin []) (.back []))) (.len r.length<| .fin []))) (p:=Lx (r.map intD)<| Lm intD r/\((∃(k:Nat),0=(k:Int)/\k<=r.length/\(r.take k).all zH=true)/\ ∀(k:Nat),(k<=r.length/\(r.take k).all zH=true)->Br ((k:Int)<(r.length:Int)) (0<=(k:Int)/\Em intD r k fun e11=>iP e11 (0:Int) (9:Int)/\Nr (gZ e11 (0:Int) (9:Int)) ((false)=(fG n r)/\True) (cW ((k:Int)+1)/\ ∃(k' :Nat),((k:Int)+1)=(k' :Int)/\(k' <=r.length/\(r.take k').all zH=true)/\r.length - k' <r.length - k)) (Lm intD r/\(decide ((r.length:Int)=n))=(fG n r)/\True))) (by kernel_rfl) ?_;refine lx fun n0=>?_;refine⟨aAK _,⟨0,rfl,aAd _,rfl⟩,fun k ⟨hk,ha⟩=>?_⟩;refine dd (fun c0=>?_) fun c0=>?_
 ·refine⟨by omega,rfl,by omega,fun e11 h11=>?_⟩;refine⟨nT _ _ _,dm (fun c1=>?_) fun c1=>?_⟩
  ·apply et1
   ·(rw[fG,iK h11 c1];rfl)
  ·refine⟨⟨by omega,by omega⟩,?_⟩;exact⟨k+1,rfl,⟨by omega,dP h11 ha c1⟩,by omega⟩
 ·refine⟨aAK _,?_,trivial⟩
  ·(rw[fG,dQ (by omega) ha];simp)
abbrev xM (r:List Int)(n:Int):Prop:=Cn 152 [.one (.sl 3 1 (r.map intD)),.one (.int .i64 n)] (vB (fG n r)) []
theorem aGU (r:List Int)(n:Int):xM r n:=by
 refine cq Tryz.func152 (.loop Nat (Q1 Nat) (rg 5 13) [] (fun k=>[(5,vI (k:Int))]) (fun k=>[]) (fun k=>k<=r.length/\(r.take k).all zH=true) (fun k=>r.length - k) (fun k=> .len r.length<| .br (.elem _ intD r (fun e14=> .call (vB (gZ e14 (0:Int) (9:Int))) []<| .br (.fin []) (.back []))) (.len r.length<| .fin []))) (p:=Lx (r.map intD)<| (∃(k:Nat),0=(k:Int)/\k<=r.length/\(r.take k).all zH=true)/\ ∀(k:Nat),(k<=r.length/\(r.take k).all zH=true)->Lm intD r/\Br ((k:Int)<(r.length:Int)) (0<=(k:Int)/\Em intD r k fun e14=>iQ e14 (0:Int) (9:Int)/\Nr (gZ e14 (0:Int) (9:Int)) ((false)=(fG n r)/\True) (cW ((k:Int)+1)/\ ∃(k' :Nat),((k:Int)+1)=(k' :Int)/\(k' <=r.length/\(r.take k').all zH=true)/\r.length - k' <r.length - k)) (Lm intD r/\(decide ((r.length:Int)=n))=(fG n r)/\True)) (by kernel_rfl) ?_;refine lx fun n0=>?_;refine⟨⟨0,rfl,aAd _,rfl⟩,fun k ⟨hk,ha⟩=>?_⟩;refine⟨aAK _,dd (fun c0=>?_) fun c0=>?_⟩
 ·refine⟨by omega,rfl,by omega,fun e14 h14=>?_⟩;refine⟨nU _ _ _,dm (fun c1=>?_) fun c1=>?_⟩
  ·apply et1
   ·(rw[fG,iK h14 c1];rfl)
  ·refine⟨⟨by omega,by omega⟩,?_⟩;exact⟨k+1,rfl,⟨by omega,dP h14 ha c1⟩,by omega⟩
 ·refine⟨aAK _,?_,trivial⟩
  ·(rw[fG,dQ (by omega) ha];simp)
abbrev aAw (s:ByteArray):Prop:=Cn 160 [.one (.str s)] (vB (gU s)) []
theorem aJ3 (s:ByteArray):aAw s:=by
 refine cq Tryz.func160 (.br (.lit<| .lit<| .lit<| .br (.fin []) (.fin [])) (.fin [])) (p:=Br ((s.size:Int)=1) (0<=(0:Int)/\0<(s.size:Int)/\Br (97<=(sB s 0)) (0<=(0:Int)/\0<(s.size:Int)/\(decide ((sB s 0)<=122))=(gU s)/\True) ((false)=(gU s)/\True)) ((false)=(gU s)/\True)) (by kernel_rfl) ?_;refine dd (fun g6=>?_) fun g6=>?_
 ·refine⟨by omega,by omega,dd (fun g11=>?_) fun g11=>?_⟩
  ·refine⟨by omega,by omega,?_,trivial⟩
   ·(simp[gU,g6,g11];done)
  ·apply et1
   ·(simp[gU,g6,g11];done)
 ·apply et1
  ·(simp[gU,g6];done)
abbrev aAx (s:ByteArray):Prop:=Cn 165 [.one (.str s)] (vB (gU s)) []
theorem aJ4 (s:ByteArray):aAx s:=by
 refine cq Tryz.func165 (.br (.lit<| .lit<| .lit<| .br (.fin []) (.fin [])) (.fin [])) (p:=Br ((s.size:Int)=1) (0<=(0:Int)/\0<(s.size:Int)/\Br (97<=(sB s 0)) (0<=(0:Int)/\0<(s.size:Int)/\(decide ((sB s 0)<=122))=(gU s)/\True) ((false)=(gU s)/\True)) ((false)=(gU s)/\True)) (by kernel_rfl) ?_;refine dd (fun g6=>?_) fun g6=>?_
 ·refine⟨by omega,by omega,dd (fun g11=>?_) fun g11=>?_⟩
  ·refine⟨by omega,by omega,?_,trivial⟩
   ·(simp[gU,g6,g11];done)
  ·apply et1
   ·(simp[gU,g6,g11];done)
 ·apply et1
  ·(simp[gU,g6];done)
abbrev aA3 (n:Int):Prop:=Cn 230 [.one (.int .i64 n)] (vB false) []
theorem aI8 (n:Int):aA3 n:=by
 refine cq Tryz.func230 (.fin []) (p:=(!(decide (n=n)))=false/\True) (by kernel_rfl) ?_;apply et1
 ·simp
def qN (a b:Int):Int:=if a<b then -1 else if b<a then 1 else 0
abbrev aEQ (a:Int)(b:Int):Prop:=Cn 215 [.one (.int .i64 a),.one (.int .i64 b)] (vI (qN a b)) []
theorem aNW (a b:Int):aEQ a b:=by
 refine cq Tryz.func215 (.call (vB false) []<| .call (vB false) []<| .lit<| .lit<| .br (.fin []) (.br (.fin []) (.fin []))) (p:=aA3 a/\aA3 b/\Br (a<b) ((-1:Int)=(qN a b)/\True) (Br (b<a) (1=(qN a b)/\True) (0=(qN a b)/\True))) (by kernel_rfl) ?_;refine⟨aI8 _,aI8 _,dd (fun c3=>?_) fun c3=>?_⟩
 ·apply et1
  ·simp[qN, *];try omega
 ·refine dd (fun c4=>?_) fun c4=>?_
  ·apply et1
   ·simp[qN, *];try omega
  ·apply et1
   ·simp[qN, *];try omega
theorem aER (a b:Int)(l m:List Int):bM (a::l) (b::m)=if qN a b=0 then bM l m else qN a b:=by
 unfold qN;rw[bM];by_cases h1:a<b
 ·simp[h1]
 by_cases h2:b<a
 ·simp[h1,h2]
 simp[h1,h2]
abbrev aLR (l:List Int)(m:List Int):Prop:=Cn 201 [.one (.sl 3 1 (l.map intD)),.one (.sl 3 1 (m.map intD))] (vI (bM l m)) []
theorem aQJ (l m:List Int):aLR l m:=by
 refine cq Tryz.func201 (.len l.length<| .loop Nat (Q1 Nat) ([5,6,7,8]++rg 11 18++[30]) [] (fun k=>[(11,vI (k:Int))]) (fun k=>[]) (fun k=>(k<=l.length/\k<=m.length)/\bM (l.drop k) (m.drop k)=bM l m) (fun k=>l.length - k) (fun k=> .br (.elem _ intD l (fun e14=> .len m.length<| .br (.fin []) (.elem _ intD m (fun e22=> .call (vI (qN e14 e22)) []<| .br (.fin []) (.back []))))) (.len l.length<| .len m.length<| .br (.fin []) (.fin [])))) (p:=Lx (l.map intD)<| Lx (m.map intD)<| Lm intD l/\((∃(k:Nat),0=(k:Int)/\(k<=l.length/\k<=m.length)/\bM (l.drop k) (m.drop k)=bM l m)/\ ∀(k:Nat),((k<=l.length/\k<=m.length)/\bM (l.drop k) (m.drop k)=bM l m)->Br ((k:Int)<(l.length:Int)) (0<=(k:Int)/\Em intD l k fun e14=>Lm intD m/\Br ((m.length:Int)<=(k:Int)) (1=(bM l m)/\True) (0<=(k:Int)/\Em intD m k fun e22=>aEQ e14 e22/\Nb ((qN e14 e22)=0) ((qN e14 e22)=(bM l m)/\True) (cW ((k:Int)+1)/\ ∃(k' :Nat),((k:Int)+1)=(k' :Int)/\((k' <=l.length/\k' <=m.length)/\bM (l.drop k') (m.drop k')=bM l m)/\l.length - k' <l.length - k))) (Lm intD l/\Lm intD m/\Br ((l.length:Int)<(m.length:Int)) ((-1:Int)=(bM l m)/\True) (0=(bM l m)/\True)))) (by kernel_rfl) ?_;refine lx fun n0=>lx fun n1=>?_;refine⟨aAK _,⟨0,rfl,⟨aAd _,aAd _⟩,rfl⟩,fun k ⟨hk,hv⟩=>?_⟩;refine dd (fun c0=>?_) fun c0=>?_
 ·obtain⟨x,hx⟩:=cT (l:=l) (k:=k) (by omega);refine⟨by omega,rfl,by omega,fun e14 h14=>?_⟩;obtain rfl:=(bA hx h14).symm;refine⟨aAK _,dd (fun c1=>?_) fun c1=>?_⟩
  ·apply et1
   ·(rw[<-hv,hZ hk (by omega),if_neg (by omega),if_pos (by omega)];done)
  ·obtain⟨y,hy⟩:=cT (l:=m) (k:=k) (by omega);have hd:bM l m=if qN x y=0 then bM (l.drop (k+1)) (m.drop (k+1)) else qN x y:=by rw[<-hv,dS hx,dS hy,aER]
   refine⟨by omega,rfl,by omega,fun e22 h22=>?_⟩;obtain rfl:=(bA hy h22).symm;refine⟨aNW _ _,dn (fun c2=>?_) fun c2=>?_⟩
   ·apply et1
    ·(rw[hd,if_neg c2];done)
   ·refine⟨⟨by omega,by omega⟩,?_⟩;exact⟨k+1,rfl,⟨by omega,by rw[hd,if_pos c2]⟩,by omega⟩
 ·refine⟨aAK _,aAK _,dd (fun c3=>?_) fun c3=>?_⟩
  ·apply et1
   ·(rw[<-hv,hZ hk (by omega),if_pos (by omega)];done)
  ·apply et1
   ·(rw[<-hv,hZ hk (by omega),if_neg (by omega),if_neg (by omega)];done)
abbrev uK (l:List Int)(m:List Int):Prop:=Cn 186 [.one (.sl 3 1 (l.map intD)),.one (.sl 3 1 (m.map intD))] (vI (bM l m)) []
theorem aFJ (l m:List Int):uK l m:=by
 refine cq Tryz.func186 (.call (vI (bM l m)) []<| .fin []) (p:=Lx (l.map intD)<| Lx (m.map intD)<| aLR l m/\(bM l m)=(bM l m)/\True) (by kernel_rfl) ?_;refine lx fun n0=>lx fun n1=>?_;refine⟨aQJ _ _,?_⟩;exact⟨rfl,trivial⟩
def kA (l:List (List Int))(i:Nat):Bool:=decide (bM (l.getD i []) (l.getD (i+1) [])<0)
def aA4 (l:List (List Int)):Bool:=(List.range (l.length - 1)).all (kA l)
def aP (t:aJ):Bool:=t.rows.all (fG t.arity)&&(gU t.name&&(gZ t.arity 1 3&&(decide ((t.rows.length:Int)<=8)&&aA4 t.rows)))
theorem jC {p:Nat->Bool}{k:Nat}(h:(List.range k).all p=true)(hk:p k=true):(List.range (k+1)).all p=true:=by
 rw[List.range_succ,List.all_append,h];simp[hk]
theorem jD {p:Nat->Bool}{n k:Nat}(hk:k<n)(h:p k=false):(List.range n).all p=false:=by
 rw[List.all_eq_false];exact⟨k,aJy.2 hk,by simp[h]⟩
theorem bP {α:Type}{l:List α}{k:Nat}{x y:α}(h:l[k]? =some x):l.getD k y=x:=by simp[aEP,h]
abbrev aC2 (l:List (List Int)):Prop:=Cn 161 [.one (.sl 34 1 (l.map aE))] (vB (aA4 l)) []
theorem aLS (l:List (List Int)):aC2 l:=by
 refine cq Tryz.func161 (.loop Nat (Q1 Nat) (rg 3 18) [] (fun k=>[(3,vI ((k:Int)+1))]) (fun k=>[]) (fun k=>(k+1<=l.length\/k=0)/\(List.range k).all (kA l)=true) (fun k=>l.length - k) (fun k=> .len l.length<| .br (.elem _ aE l (fun e13=> .elem _ aE l (fun e17=> .call (vI (bM e13 e17)) []<| .br (.fin []) (.back [])))) (.fin []))) (p:=Lx (l.map aE)<| (∃(k:Nat),1=((k:Int)+1)/\(k+1<=l.length\/k=0)/\(List.range k).all (kA l)=true)/\ ∀(k:Nat),((k+1<=l.length\/k=0)/\(List.range k).all (kA l)=true)->Lm aE l/\Br (((k:Int)+1)<(l.length:Int)) (cW (((k:Int)+1) - 1)/\0<=(((k:Int)+1) - 1)/\Em aE l ((((k:Int)+1) - 1).toNat) fun e13=>0<=((k:Int)+1)/\Em aE l (k+1) fun e17=>uK e13 e17/\Br (0<=(bM e13 e17)) ((false)=(aA4 l)/\True) (cW (((k:Int)+1)+1)/\ ∃(k' :Nat),(((k:Int)+1)+1)=(((k' :Nat):Int)+1)/\((k' +1<=l.length\/k' =0)/\(List.range k').all (kA l)=true)/\l.length - k' <l.length - k)) ((true)=(aA4 l)/\True)) (by kernel_rfl) ?_;refine lx fun n0=>?_;refine⟨⟨0,rfl,.inr rfl,rfl⟩,fun k ⟨hk,ha⟩=>?_⟩;refine⟨aAK _,dd (fun c0=>?_) fun c0=>?_⟩
 ·refine⟨⟨by omega,by omega⟩,by omega,rfl,by omega,fun e13 h13=>?_⟩;have i13:l[k]? =some e13:=by rw[<-h13];congr 1;omega
  refine⟨by omega,rfl,by omega,fun e17 h17=>?_⟩;refine⟨aFJ _ _,dd (fun c1=>?_) fun c1=>?_⟩
  ·have hp:kA l k=false:=by rw[kA,bP i13,bP h17];simp;omega
   apply et1
   ·(rw[aA4,jD (by omega) hp];done)
  ·have hp:kA l k=true:=by rw[kA,bP i13,bP h17];simp;omega
   refine⟨⟨by omega,by omega⟩,?_⟩;exact⟨k+1,rfl,⟨by omega,jC ha hp⟩,by omega⟩
 ·apply et1
  ·(rw[aA4,show l.length - 1=k by omega,ha];done)
abbrev kJ (t:aJ):Prop:=Cn 105 [.agg [.str t.name,.int .i64 t.arity,.sl 34 1 (t.rows.map aE)]] (vB (aP t)) []
theorem rG (t:aJ):kJ t:=by
 refine cq Tryz.func105 (.len t.rows.length<| .loop Nat (Q1 Nat) ([4]++rg 8 10) [] (fun k=>[(8,vI (k:Int))]) (fun k=>[]) (fun k=>k<=t.rows.length/\(t.rows.take k).all (fG t.arity)=true) (fun k=>t.rows.length - k) (fun k=> .br (.elem _ aE t.rows (fun e10=> .call (vB (fG t.arity e10)) []<| .br (.fin []) (.back []))) (.call (vB (gU t.name)) []<| .br (.call (vB (gZ t.arity (1:Int) (3:Int))) []<| .lit<| .br (.len t.rows.length<| .lit<| .lit<| .br (.call (vB (aA4 t.rows)) []<| .fin []) (.fin [])) (.fin [])) (.fin [])))) (p:=Lx (t.rows.map aE)<| Lm aE t.rows/\((∃(k:Nat),0=(k:Int)/\k<=t.rows.length/\(t.rows.take k).all (fG t.arity)=true)/\ ∀(k:Nat),(k<=t.rows.length/\(t.rows.take k).all (fG t.arity)=true)->Br ((k:Int)<(t.rows.length:Int)) (0<=(k:Int)/\Em aE t.rows k fun e10=>xL e10 t.arity/\Nr (fG t.arity e10) ((false)=(aP t)/\True) (cW ((k:Int)+1)/\ ∃(k' :Nat),((k:Int)+1)=(k' :Int)/\(k' <=t.rows.length/\(t.rows.take k').all (fG t.arity)=true)/\t.rows.length - k' <t.rows.length - k)) (aAw t.name/\Bb (gU t.name) (iP t.arity (1:Int) (3:Int)/\Bb (gZ t.arity (1:Int) (3:Int)) (Lm aE t.rows/\Br ((t.rows.length:Int)<=8) (aC2 t.rows/\(aA4 t.rows)=(aP t)/\True) ((false)=(aP t)/\True)) ((false)=(aP t)/\True)) ((false)=(aP t)/\True)))) (by kernel_rfl) ?_;refine lx fun n0=>?_;refine⟨aAK _,⟨0,rfl,aAd _,rfl⟩,fun k ⟨hk,ha⟩=>?_⟩;refine dd (fun c0=>?_) fun c0=>?_
 ·refine⟨by omega,rfl,by omega,fun e10 h10=>?_⟩;refine⟨aGT _ _,dm (fun c1=>?_) fun c1=>?_⟩
  ·apply et1
   ·(rw[aP,iK h10 c1];rfl)
  ·refine⟨⟨by omega,by omega⟩,?_⟩;exact⟨k+1,rfl,⟨by omega,dP h10 ha c1⟩,by omega⟩
 ·have hall:=dQ (by omega) ha;refine⟨aJ3 _,db (fun g21=>?_) fun g21=>?_⟩
  ·refine⟨nT _ _ _,db (fun g26=>?_) fun g26=>?_⟩
   ·refine⟨aAK _,dd (fun g32=>?_) fun g32=>?_⟩
    ·refine⟨aLS _,?_,trivial⟩
     ·(simp[aP,hall, *];done)
    ·apply et1
     ·(simp[aP,hall, *];done)
   ·apply et1
    ·(simp[aP,hall, *];done)
  ·apply et1
   ·(simp[aP,hall, *];done)
abbrev kK (t:aJ):Prop:=Cn 108 [.agg [.str t.name,.int .i64 t.arity,.sl 34 1 (t.rows.map aE)]] (vB (aP t)) []
theorem rH (t:aJ):kK t:=by
 refine cq Tryz.func108 (.call (vB (gU t.name)) []<| .br (.fin []) (.call (vB (gZ t.arity (1:Int) (3:Int))) []<| .lit<| .lit<| .br (.fin []) (.len t.rows.length<| .lit<| .lit<| .br (.fin []) (.loop Nat (Q1 Nat) ([3]++rg 20 35) [] (fun k=>[(3,vI (k:Int))]) (fun k=>[]) (fun k=>k<=t.rows.length/\(t.rows.take k).all (fG t.arity)=true/\(List.range (k - 1)).all (kA t.rows)=true) (fun k=>t.rows.length - k) (fun k=> .len t.rows.length<| .br (.elem _ aE t.rows (fun e30=> .call (vB (fG t.arity e30)) []<| .br (.fin []) (.lit<| .lit<| .br (.elem _ aE t.rows (fun e44=> .elem _ aE t.rows (fun e49=> .call (vI (bM e44 e49)) []<| .lit<| .lit<| .lit<| .lit<| .br (.fin []) (.back [])))) (.back [])))) (.fin [])))))) (p:=Lx (t.rows.map aE)<| aAx t.name/\Nr (gU t.name) ((false)=(aP t)/\True) (iQ t.arity (1:Int) (3:Int)/\Nr (gZ t.arity (1:Int) (3:Int)) ((false)=(aP t)/\True) (Lm aE t.rows/\Br (8<(t.rows.length:Int)) ((false)=(aP t)/\True) ((∃(k:Nat),0=(k:Int)/\k<=t.rows.length/\(t.rows.take k).all (fG t.arity)=true/\(List.range (k - 1)).all (kA t.rows)=true)/\ ∀(k:Nat),(k<=t.rows.length/\(t.rows.take k).all (fG t.arity)=true/\(List.range (k - 1)).all (kA t.rows)=true)->Lm aE t.rows/\Br ((k:Int)<(t.rows.length:Int)) (0<=(k:Int)/\Em aE t.rows k fun e30=>xM e30 t.arity/\Nr (fG t.arity e30) ((false)=(aP t)/\True) (Br (0<(k:Int)) (cW ((k:Int) - 1)/\0<=((k:Int) - 1)/\Em aE t.rows (((k:Int) - 1).toNat) fun e44=>0<=(k:Int)/\Em aE t.rows k fun e49=>dA e44 e49/\Br (0<=(bM e44 e49)) ((false)=(aP t)/\True) (cW ((k:Int)+1)/\ ∃(k' :Nat),((k:Int)+1)=(k' :Int)/\(k' <=t.rows.length/\(t.rows.take k').all (fG t.arity)=true/\(List.range (k' - 1)).all (kA t.rows)=true)/\t.rows.length - k' <t.rows.length - k)) (cW ((k:Int)+1)/\ ∃(k' :Nat),((k:Int)+1)=(k' :Int)/\(k' <=t.rows.length/\(t.rows.take k').all (fG t.arity)=true/\(List.range (k' - 1)).all (kA t.rows)=true)/\t.rows.length - k' <t.rows.length - k))) ((true)=(aP t)/\True))))) (by kernel_rfl) ?_;refine lx fun n0=>?_;refine⟨aJ4 _,dm (fun g8=>?_) fun g8=>?_⟩
 ·apply et1
  ·(simp[aP, *];done)
 ·refine⟨nU _ _ _,dm (fun g14=>?_) fun g14=>?_⟩
  ·apply et1
   ·(simp[aP, *];done)
  ·refine⟨aAK _,dd (fun c0=>?_) fun c0=>?_⟩
   ·have h8:decide ((t.rows.length:Int)<=8)=false:=by simp;omega
    apply et1
    ·(rw[aP,h8];simp[*];done)
   ·have h8:decide ((t.rows.length:Int)<=8)=true:=by simp;omega
    refine⟨⟨0,rfl,aAd _,rfl,rfl⟩,fun k ⟨hk,ha,hs⟩=>?_⟩;refine⟨aAK _,dd (fun c1=>?_) fun c1=>?_⟩
    ·refine⟨by omega,rfl,by omega,fun e30 h30=>?_⟩;refine⟨aGU _ _,dm (fun g36=>?_) fun g36=>?_⟩
     ·apply et1
      ·(rw[aP,iK h30 g36];rfl)
     ·refine dd (fun g39=>?_) fun g39=>?_
      ·refine⟨⟨by omega,by omega⟩,by omega,rfl,by omega,fun e44 h44=>?_⟩;have i44:t.rows[k - 1]? =some e44:=by rw[<-h44];congr 1;omega
       refine⟨by omega,rfl,by omega,fun e49 h49=>?_⟩;refine⟨eI _ _,dd (fun c2=>?_) fun c2=>?_⟩
       ·have hp:kA t.rows (k - 1)=false:=by rw[kA,bP i44,show k - 1+1=k by omega,bP h49];simp;omega
        have hz:aA4 t.rows=false:=jD (by omega) hp;apply et1
        ·(rw[aP,h8,hz];simp[*];done)
       ·have hp:kA t.rows (k - 1)=true:=by rw[kA,bP i44,show k - 1+1=k by omega,bP h49];simp;omega
        have hs2:(List.range (k+1 - 1)).all (kA t.rows)=true:=by rw[show k+1 - 1=(k - 1)+1 by omega];exact jC hs hp
        refine⟨⟨by omega,by omega⟩,?_⟩;exact⟨k+1,rfl,⟨by omega,dP h30 ha g36,hs2⟩,by omega⟩
      ·have hs2:(List.range (k+1 - 1)).all (kA t.rows)=true:=by rw[show k=0 by omega];rfl
       refine⟨⟨by omega,by omega⟩,?_⟩;exact⟨k+1,rfl,⟨by omega,dP h30 ha g36,hs2⟩,by omega⟩
    ·have hall:=dQ (by omega) ha;have hz:aA4 t.rows=true:=by rw[aA4,show t.rows.length - 1=k - 1 by omega,hs]
     apply et1
     ·(rw[aP,h8,hz];simp[*];done)
def aLT (n:Int)(cols:List Int):Bool:=cols.all fun c=>gZ c 0 (n - 1)
def uL (r:List Int)(c:Int):Int:=r.getD c.toNat 0
def fC (r cols:List Int):List Int × Bool:=if aLT r.length cols=true then (cols.map (uL r),true) else ([],false)
theorem zI {r cols:List Int}(h:cols.all (fun c=>gZ c 0 ((r.length:Int) - 1))=true):fC r cols=(cols.map (uL r),true):=by rw[fC,if_pos (show aLT _ _=true from h)]
theorem aI9 {r cols:List Int}(h:cols.all (fun c=>gZ c 0 ((r.length:Int) - 1))=false):fC r cols=([],false):=by rw[fC,if_neg (by rw[show aLT _ _=false from h];decide)]
theorem aGV {r:List Int}{c x:Int}(h:r[c.toNat]? =some x):uL r c=x:=bP h
theorem aC3 (r cols:List Int):(fC r cols).1.length<=cols.length:=by
 unfold fC;split<;>simp
def gO (b:Int)(cols:List Int)(i:Nat):Bool:=gZ (cols.getD i 0) 0 b&&(decide (i=0) || decide (cols.getD (i - 1) 0<cols.getD i 0))
def cV (b:Int)(cols:List Int):Bool:=(List.range cols.length).all (gO b cols)
abbrev oX (r:List Int)(cols:List Int):AV × List (Nat × Rs):=(.tup [.own 0,vB ((fC r cols).2)],[(0,.arr 3 1 true ((fC r cols).1.map intD))])
abbrev sH (r:List Int)(cols:List Int):Prop:=Cn 164 [.one (.sl 3 1 (r.map intD)),.one (.sl 3 1 (cols.map intD))] (oX r cols).1 (oX r cols).2
theorem aC4 (r cols:List Int)(hl:cols.length<=1048576):sH r cols:=by
 refine cq Tryz.func164 (.len cols.length<| .loop (Nat × (List Int)) (Q2 Nat (List Int)) ([6,8,9]++rg 12 18) [900,2700,2800] (fun yy0=>[(12,vI (yy0.1:Int)),(6,.own 900)]) (fun yy0=>[(900,some (.arr 3 1 true (yy0.2.map intD)))]) (fun yy0=>yy0.1<=cols.length/\yy0.2=(cols.take yy0.1).map (uL r)/\(cols.take yy0.1).all (fun c=>gZ c 0 ((r.length:Int) - 1))=true) (fun yy0=>cols.length - yy0.1) (fun yy0=> .br (.elem _ intD cols (fun e14=> .len r.length<| .call (vB (gZ e14 (0:Int) ((r.length:Int) - 1))) []<| .br (.fin []) (.elem _ intD r (fun e25=> .app Int intD yy0.2 ([e25]:List Int)<| .back [(900,2800)])))) (.fin [(0,900)]))) (p:=Lx (r.map intD)<| Lx (cols.map intD)<| Lm intD cols/\((∃(k:Nat) (out:List Int),0=(k:Int)/\[]=out.map intD/\k<=cols.length/\out=(cols.take k).map (uL r)/\(cols.take k).all (fun c=>gZ c 0 ((r.length:Int) - 1))=true)/\ ∀(k:Nat) (out:List Int),(k<=cols.length/\out=(cols.take k).map (uL r)/\(cols.take k).all (fun c=>gZ c 0 ((r.length:Int) - 1))=true)->Br ((k:Int)<(cols.length:Int)) (0<=(k:Int)/\Em intD cols k fun e14=>Lm intD r/\cW ((r.length:Int) - 1)/\iP e14 (0:Int) ((r.length:Int) - 1)/\Nr (gZ e14 (0:Int) ((r.length:Int) - 1)) ((false)=((fC r cols).2)/\[]=(fC r cols).1.map intD/\True) (0<=e14/\Em intD r ((e14).toNat) fun e25=>Ap intD out ([e25]:List Int) 8 (cW ((k:Int)+1)/\ ∃(k' :Nat) (out' :List Int),((k:Int)+1)=(k' :Int)/\(out++[e25]).map intD=out'.map intD/\(k' <=cols.length/\out' =(cols.take k').map (uL r)/\(cols.take k').all (fun c=>gZ c 0 ((r.length:Int) - 1))=true)/\cols.length - k' <cols.length - k))) ((true)=((fC r cols).2)/\out.map intD=(fC r cols).1.map intD/\True))) (by kernel_rfl) ?_;refine lx fun n0=>lx fun n1=>?_;refine⟨aAK _,⟨0,([]:List Int),rfl,rfl,aAd _,rfl,rfl⟩,fun k out ⟨hk,ho,ha⟩=>?_⟩;refine dd (fun c0=>?_) fun c0=>?_
 ·refine⟨by omega,rfl,by omega,fun e14 h14=>?_⟩;refine⟨aAK _,⟨by omega,by omega⟩,nT _ _ _,dm (fun c1=>?_) fun c1=>?_⟩
  ·apply et2<;>((rw[aI9 (iK h14 c1)]<;>rfl))
  ·have hb:=jQ c1;refine⟨by omega,rfl,by omega,fun e25 h25=>?_⟩;refine ap ?_ (fun _=>rfl) (by simp[ho];omega);refine⟨⟨by omega,by omega⟩,?_⟩;exact⟨k+1,_,rfl,rfl,⟨by omega,by rw[ho,cC h14,aG0,aGQ,List.map_nil,aGV h25],dP h14 ha c1⟩,by omega⟩
 ·apply et2<;>(first|(rw[zI (dQ (by omega) ha),ho,aCv (by omega)]<;>rfl)|(rw[zI (dQ (by omega) ha)]<;>rfl))
abbrev mD (r:List Int)(cols:List Int):AV × List (Nat × Rs):=(.tup [.own 0,vB ((fC r cols).2)],[(0,.arr 3 1 true ((fC r cols).1.map intD))])
abbrev oY (r:List Int)(cols:List Int):Prop:=Cn 168 [.one (.sl 3 1 (r.map intD)),.one (.sl 3 1 (cols.map intD))] (mD r cols).1 (mD r cols).2
theorem zJ (r cols:List Int)(hl:cols.length<=1048576):oY r cols:=by
 refine cq Tryz.func168 (.loop (Nat × (List Int)) (Q2 Nat (List Int)) (rg 6 18++rg 25 10) [800,3300,3400] (fun yy0=>[(7,vI (yy0.1:Int)),(6,.own 800)]) (fun yy0=>[(800,some (.arr 3 1 true (yy0.2.map intD)))]) (fun yy0=>yy0.1<=cols.length/\yy0.2=(cols.take yy0.1).map (uL r)/\(cols.take yy0.1).all (fun c=>gZ c 0 ((r.length:Int) - 1))=true) (fun yy0=>cols.length - yy0.1) (fun yy0=> .len cols.length<| .br (.elem _ intD cols (fun e17=> .len r.length<| .call (vB (gZ e17 (0:Int) ((r.length:Int) - 1))) []<| .br (.fin [(0,2400)]) (.elem _ intD cols (fun e29=> .elem _ intD r (fun e31=> .app Int intD yy0.2 ([e31]:List Int)<| .back [(800,3400)]))))) (.fin [(0,800)]))) (p:=Lx (r.map intD)<| Lx (cols.map intD)<| (∃(k:Nat) (out:List Int),0=(k:Int)/\[]=out.map intD/\k<=cols.length/\out=(cols.take k).map (uL r)/\(cols.take k).all (fun c=>gZ c 0 ((r.length:Int) - 1))=true)/\ ∀(k:Nat) (out:List Int),(k<=cols.length/\out=(cols.take k).map (uL r)/\(cols.take k).all (fun c=>gZ c 0 ((r.length:Int) - 1))=true)->Lm intD cols/\Br ((k:Int)<(cols.length:Int)) (0<=(k:Int)/\Em intD cols k fun e17=>Lm intD r/\cW ((r.length:Int) - 1)/\iQ e17 (0:Int) ((r.length:Int) - 1)/\Nr (gZ e17 (0:Int) ((r.length:Int) - 1)) ((false)=((fC r cols).2)/\[]=(fC r cols).1.map intD/\True) (0<=(k:Int)/\Em intD cols k fun e29=>0<=e29/\Em intD r ((e29).toNat) fun e31=>Ap intD out ([e31]:List Int) 8 (cW ((k:Int)+1)/\ ∃(k' :Nat) (out' :List Int),((k:Int)+1)=(k' :Int)/\(out++[e31]).map intD=out'.map intD/\(k' <=cols.length/\out' =(cols.take k').map (uL r)/\(cols.take k').all (fun c=>gZ c 0 ((r.length:Int) - 1))=true)/\cols.length - k' <cols.length - k))) ((true)=((fC r cols).2)/\out.map intD=(fC r cols).1.map intD/\True)) (by kernel_rfl) ?_;refine lx fun n0=>lx fun n1=>?_;refine⟨⟨0,([]:List Int),rfl,rfl,aAd _,rfl,rfl⟩,fun k out ⟨hk,ho,ha⟩=>?_⟩;refine⟨aAK _,dd (fun c0=>?_) fun c0=>?_⟩
 ·refine⟨by omega,rfl,by omega,fun e17 h17=>?_⟩;refine⟨aAK _,⟨by omega,by omega⟩,nU _ _ _,dm (fun c1=>?_) fun c1=>?_⟩
  ·apply et2<;>((rw[aI9 (iK h17 c1)]<;>rfl))
  ·have hb:=jQ c1;refine⟨by omega,rfl,by omega,fun e29 h29=>?_⟩;obtain rfl:=(bA h17 h29).symm;refine⟨by omega,rfl,by omega,fun e31 h31=>?_⟩;refine ap ?_ (fun _=>rfl) (by simp[ho];omega);refine⟨⟨by omega,by omega⟩,?_⟩;exact⟨k+1,_,rfl,rfl,⟨by omega,by rw[ho,cC h17,aG0,aGQ,List.map_nil,aGV h31],dP h17 ha c1⟩,by omega⟩
 ·apply et2<;>(first|(rw[zI (dQ (by omega) ha),ho,aCv (by omega)]<;>rfl)|(rw[zI (dQ (by omega) ha)]<;>rfl))
abbrev uM (cols:List Int)(a:Int):Prop:=Cn 163 [.one (.sl 3 1 (cols.map intD)),.one (.int .i64 a)] (vB (cV (a - 1) cols)) []
theorem aES (cols:List Int)(a:Int)(ha:1<=a/\a<=3):uM cols a:=by
 refine cq Tryz.func163 (.len cols.length<| .loop Nat (Q1 Nat) ([5,6]++rg 9 24) [] (fun k=>[(9,vI (k:Int))]) (fun k=>[]) (fun k=>k<=cols.length/\(List.range k).all (gO (a - 1) cols)=true) (fun k=>cols.length - k) (fun k=> .br (.elem _ intD cols (fun e12=> .call (vB (gZ e12 (0:Int) (a - 1))) []<| .br (.fin []) (.lit<| .lit<| .br (.elem _ intD cols (fun e26=> .lit<| .lit<| .lit<| .lit<| .lit<| .lit<| .br (.fin []) (.back []))) (.back [])))) (.fin []))) (p:=Lx (cols.map intD)<| Lm intD cols/\((∃(k:Nat),0=(k:Int)/\k<=cols.length/\(List.range k).all (gO (a - 1) cols)=true)/\ ∀(k:Nat),(k<=cols.length/\(List.range k).all (gO (a - 1) cols)=true)->Br ((k:Int)<(cols.length:Int)) (0<=(k:Int)/\Em intD cols k fun e12=>cW (a - 1)/\iP e12 (0:Int) (a - 1)/\Nr (gZ e12 (0:Int) (a - 1)) ((false)=(cV (a - 1) cols)/\True) (Br (0<(k:Int)) (cW ((k:Int) - 1)/\0<=((k:Int) - 1)/\Em intD cols (((k:Int) - 1).toNat) fun e26=>Br (e12<=e26) ((false)=(cV (a - 1) cols)/\True) (cW ((k:Int)+1)/\ ∃(k' :Nat),((k:Int)+1)=(k' :Int)/\(k' <=cols.length/\(List.range k').all (gO (a - 1) cols)=true)/\cols.length - k' <cols.length - k)) (cW ((k:Int)+1)/\ ∃(k' :Nat),((k:Int)+1)=(k' :Int)/\(k' <=cols.length/\(List.range k').all (gO (a - 1) cols)=true)/\cols.length - k' <cols.length - k))) ((true)=(cV (a - 1) cols)/\True))) (by kernel_rfl) ?_;refine lx fun n0=>?_;refine⟨aAK _,⟨0,rfl,aAd _,rfl⟩,fun k ⟨hk,hv⟩=>?_⟩;refine dd (fun c0=>?_) fun c0=>?_
 ·refine⟨by omega,rfl,by omega,fun e12 h12=>?_⟩;refine⟨⟨by omega,by omega⟩,nT _ _ _,dm (fun g19=>?_) fun g19=>?_⟩
  ·have hp:gO (a - 1) cols k=false:=by rw[gO,bP h12,g19];rfl
   apply et1
   ·(rw[cV,jD (by omega) hp];done)
  ·refine dd (fun g22=>?_) fun g22=>?_
   ·refine⟨⟨by omega,by omega⟩,by omega,rfl,by omega,fun e26 h26=>?_⟩;have i26:cols[k - 1]? =some e26:=by rw[<-h26];congr 1;omega
    refine dd (fun c1=>?_) fun c1=>?_
    ·have hp:gO (a - 1) cols k=false:=by rw[gO,bP h12,bP i26,show decide (e26<e12)=false by simp;omega,show decide (k=0)=false by simp;omega];simp
     apply et1
     ·(rw[cV,jD (by omega) hp];done)
    ·have hp:gO (a - 1) cols k=true:=by rw[gO,bP h12,g19,bP i26,show decide (e26<e12)=true by simp;omega];simp
     refine⟨⟨by omega,by omega⟩,?_⟩;exact⟨k+1,rfl,⟨by omega,jC hv hp⟩,by omega⟩
   ·have hp:gO (a - 1) cols k=true:=by rw[gO,bP h12,g19,show decide (k=0)=true by simp;omega];rfl
    refine⟨⟨by omega,by omega⟩,?_⟩;exact⟨k+1,rfl,⟨by omega,jC hv hp⟩,by omega⟩
 ·apply et1
  ·(rw[cV,show cols.length=k by omega,hv];done)
theorem bI {t:aJ}(h:aP t=true):1<=t.arity/\t.arity<=3/\t.rows.length<=8:=by
 simp only[aP,aAO,aKQ] at h;have:=jQ h.2.2.1;omega
theorem aC5 {t:aJ}(h:aP t=true):IntKind.i64.wrap (t.arity - 1)=t.arity - 1:=by
 have:=bI h;exact IntWalk.i64_in _ ⟨by omega,by omega⟩
theorem aLU {t:aJ}{cols:List Int}(h:cV (IntKind.i64.wrap (t.arity - 1)) cols=false):(aP t&&cV (t.arity - 1) cols)=false:=by
 cases e:aP t with
 | false=>rfl
 | true=>rw[aC5 e] at h;rw[h];rfl
theorem aNX {t:aJ}{cols:List Int}(h:cV (IntKind.i64.wrap (t.arity - 1)) cols=true):(aP t&&cV (t.arity - 1) cols)=aP t:=by
 cases e:aP t with
 | false=>rfl
 | true=>rw[aC5 e] at h;rw[h];rfl
abbrev uN (t:aJ)(cols:List Int):Prop:=Cn 167 [.agg [.str t.name,.int .i64 t.arity,.sl 34 1 (t.rows.map aE)],.one (.sl 3 1 (cols.map intD))] (vB (aP t&&cV (t.arity - 1) cols)) []
theorem aET (t:aJ)(cols:List Int):uN t cols:=by
 refine cq Tryz.func167 (.loop Nat (Q1 Nat) (rg 5 32) [] (fun k=>[(5,vI (k:Int))]) (fun k=>[]) (fun k=>k<=cols.length/\(List.range k).all (gO (IntKind.i64.wrap (t.arity - 1)) cols)=true) (fun k=>cols.length - k) (fun k=> .len cols.length<| .br (.elem _ intD cols (fun e14=> .raw<| .call (vB (gZ e14 (0:Int) (IntKind.i64.wrap (t.arity - 1)))) []<| .br (.fin []) (.lit<| .lit<| .br (.elem _ intD cols (fun e28=> .elem _ intD cols (fun e32=> .lit<| .lit<| .lit<| .lit<| .lit<| .br (.fin []) (.back [])))) (.back [])))) (.call (vB (aP t)) []<| .fin []))) (p:=Lx (t.rows.map aE)<| Lx (cols.map intD)<| (∃(k:Nat),0=(k:Int)/\k<=cols.length/\(List.range k).all (gO (IntKind.i64.wrap (t.arity - 1)) cols)=true)/\ ∀(k:Nat),(k<=cols.length/\(List.range k).all (gO (IntKind.i64.wrap (t.arity - 1)) cols)=true)->Lm intD cols/\Br ((k:Int)<(cols.length:Int)) (0<=(k:Int)/\Em intD cols k fun e14=>iQ e14 (0:Int) (IntKind.i64.wrap (t.arity - 1))/\Nr (gZ e14 (0:Int) (IntKind.i64.wrap (t.arity - 1))) ((false)=(aP t&&cV (t.arity - 1) cols)/\True) (Br (0<(k:Int)) (cW ((k:Int) - 1)/\0<=((k:Int) - 1)/\Em intD cols (((k:Int) - 1).toNat) fun e28=>0<=(k:Int)/\Em intD cols k fun e32=>Br (e32<=e28) ((false)=(aP t&&cV (t.arity - 1) cols)/\True) (cW ((k:Int)+1)/\ ∃(k' :Nat),((k:Int)+1)=(k' :Int)/\(k' <=cols.length/\(List.range k').all (gO (IntKind.i64.wrap (t.arity - 1)) cols)=true)/\cols.length - k' <cols.length - k)) (cW ((k:Int)+1)/\ ∃(k' :Nat),((k:Int)+1)=(k' :Int)/\(k' <=cols.length/\(List.range k').all (gO (IntKind.i64.wrap (t.arity - 1)) cols)=true)/\cols.length - k' <cols.length - k))) (kK t/\(aP t)=(aP t&&cV (t.arity - 1) cols)/\True)) (by kernel_rfl) ?_;refine lx fun n0=>lx fun n1=>?_;refine⟨⟨0,rfl,aAd _,rfl⟩,fun k ⟨hk,hv⟩=>?_⟩;refine⟨aAK _,dd (fun c0=>?_) fun c0=>?_⟩
 ·refine⟨by omega,rfl,by omega,fun e14 h14=>?_⟩;refine⟨nU _ _ _,dm (fun g21=>?_) fun g21=>?_⟩
  ·have hp:gO (IntKind.i64.wrap (t.arity - 1)) cols k=false:=by rw[gO,bP h14,g21];rfl
   apply et1
   ·(rw[aLU (by rw[cV,jD (by omega) hp])];done)
  ·refine dd (fun g24=>?_) fun g24=>?_
   ·refine⟨⟨by omega,by omega⟩,by omega,rfl,by omega,fun e28 h28=>?_⟩;have i28:cols[k - 1]? =some e28:=by rw[<-h28];congr 1;omega
    refine⟨by omega,rfl,by omega,fun e32 h32=>?_⟩;obtain rfl:=(bA h14 h32).symm;refine dd (fun c1=>?_) fun c1=>?_
    ·have hp:gO (IntKind.i64.wrap (t.arity - 1)) cols k=false:=by rw[gO,bP h14,bP i28,show decide (e28<e14)=false by simp;omega,show decide (k=0)=false by simp;omega];simp
     apply et1
     ·(rw[aLU (by rw[cV,jD (by omega) hp])];done)
    ·have hp:gO (IntKind.i64.wrap (t.arity - 1)) cols k=true:=by rw[gO,bP h14,g21,bP i28,show decide (e28<e14)=true by simp;omega];simp
     refine⟨⟨by omega,by omega⟩,?_⟩;exact⟨k+1,rfl,⟨by omega,jC hv hp⟩,by omega⟩
   ·have hp:gO (IntKind.i64.wrap (t.arity - 1)) cols k=true:=by rw[gO,bP h14,g21,show decide (k=0)=true by simp;omega];rfl
    refine⟨⟨by omega,by omega⟩,?_⟩;exact⟨k+1,rfl,⟨by omega,jC hv hp⟩,by omega⟩
 ·refine⟨rH t,?_,trivial⟩
  ·(rw[aNX (by rw[cV,show cols.length=k by omega,hv])];done)
end Go.Proofs.YtafmaholhcgakaaGreat
