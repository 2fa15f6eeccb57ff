/-
  Contracts and plain laws, joined: part 12.
-/
import Derived.Test.YtafmaholhcgakaaGreatfs10
import Derived.Test.YtafmaholhcgakaaGreatfs7
import Derived.Test.YtafmaholhcgakaaGreatfs8
import Derived.Test.YtafmaholhcgakaaGreatfs9
namespace Go.Proofs.YtafmaholhcgakaaGreat
open Go.ChangeShapes Go.WideShapes Go.ChangeAt Go.RowKit
set_option linter.unusedVariables false
set_option linter.unusedSimpArgs false
set_option maxRecDepth 100000
set_option maxHeartbeats 4000000
def dN (d:aI)(l:List aN)(m:List aO):Bool:=l.all (gB d)&&(m.all (gC d)&&(decide ((l.length:Int)<=8)&&decide ((m.length:Int)<=8)))
abbrev vJ (d:aI)(l:List aN)(m:List aO):Prop:=Cn 36 [.agg [.sl 88 3 (d.tables.map aB)],.one (.sl 77 3 (l.map aD)),.one (.sl 81 4 (m.map aG))] (vB (dN d l m)) []
theorem aE8 (d:aI)(l:List aN)(m:List aO)(hc:aT d<=1048576):vJ d l m:=by
 refine cq Tryz.func36 (.len l.length<| .loop Nat (Q1 Nat) ([8]++rg 13 9) [800] (fun k=>[(13,vI (k:Int))]) (fun k=>[]) (fun k=>k<=l.length/\(l.take k).all (gB d)=true) (fun k=>l.length - k) (fun k=> .br (.elem _ aD l (fun e15=> .call (vB (gB d e15)) []<| .br (.fin []) (.back []))) (.len m.length<| .loop Nat (Q1 Nat) ([10]++rg 24 9) [1000] (fun j=>[(24,vI (j:Int))]) (fun j=>[]) (fun j=>j<=m.length/\(m.take j).all (gC d)=true) (fun j=>m.length - j) (fun j=> .br (.elem _ aG m (fun e26=> .call (vB (gC d e26)) []<| .br (.fin []) (.back []))) (.len l.length<| .br (.len m.length<| .fin []) (.fin [])))))) (p:=Lx (d.tables.map aB)<| Lx (l.map aD)<| Lx (m.map aG)<| Lm aD l/\((∃(k:Nat),0=(k:Int)/\k<=l.length/\(l.take k).all (gB d)=true)/\ ∀(k:Nat),(k<=l.length/\(l.take k).all (gB d)=true)->Br ((k:Int)<(l.length:Int)) (0<=(k:Int)/\Em aD l k fun e15=>aAA d e15/\Nr (gB d e15) ((false)=(dN d l m)/\True) (cW ((k:Int)+1)/\ ∃(k' :Nat),((k:Int)+1)=(k' :Int)/\(k' <=l.length/\(l.take k').all (gB d)=true)/\l.length - k' <l.length - k)) (Lm aG m/\((∃(j:Nat),0=(j:Int)/\j<=m.length/\(m.take j).all (gC d)=true)/\ ∀(j:Nat),(j<=m.length/\(m.take j).all (gC d)=true)->Br ((j:Int)<(m.length:Int)) (0<=(j:Int)/\Em aG m j fun e26=>aAB d e26/\Nr (gC d e26) ((false)=(dN d l m)/\True) (cW ((j:Int)+1)/\ ∃(j' :Nat),((j:Int)+1)=(j' :Int)/\(j' <=m.length/\(m.take j').all (gC d)=true)/\m.length - j' <m.length - j)) (Lm aD l/\Br ((l.length:Int)<=8) (Lm aG m/\(decide ((m.length:Int)<=8))=(dN d l m)/\True) ((false)=(dN d l m)/\True)))))) (by kernel_rfl) ?_;refine lx fun n0=>lx fun n1=>lx fun n2=>?_;refine⟨aAK _,⟨0,rfl,aAd _,rfl⟩,fun k ⟨hk,ha⟩=>?_⟩;refine dd (fun c0=>?_) fun c0=>?_
 ·refine⟨by omega,rfl,by omega,fun e15 h15=>?_⟩;refine⟨aHk _ _ (by omega),dm (fun c1=>?_) fun c1=>?_⟩
  ·have hL:l.all (gB d)=false:=iK h15 (by simpa using c1);apply et1
   ·(simp[dN,hL];done)
  ·refine⟨⟨by omega,by omega⟩,?_⟩;exact⟨k+1,rfl,⟨by omega,dP h15 ha (by simpa using c1)⟩,by omega⟩
 ·have hL:=dQ (by omega) ha;refine⟨aAK _,⟨0,rfl,aAd _,rfl⟩,fun j ⟨hj,hb⟩=>?_⟩;refine dd (fun c2=>?_) fun c2=>?_
  ·refine⟨by omega,rfl,by omega,fun e26 h26=>?_⟩;refine⟨aHl _ _ (by omega),dm (fun c3=>?_) fun c3=>?_⟩
   ·have hM:m.all (gC d)=false:=iK h26 (by simpa using c3);apply et1
    ·(simp[dN,hL,hM];done)
   ·refine⟨⟨by omega,by omega⟩,?_⟩;exact⟨j+1,rfl,⟨by omega,dP h26 hb (by simpa using c3)⟩,by omega⟩
  ·have hM:=dQ (by omega) hb;refine⟨aAK _,dd (fun g36=>?_) fun g36=>?_⟩
   ·refine⟨aAK _,?_,trivial⟩
    ·(simp[dN,hL,hM, *];done)
   ·apply et1
    ·(simp[dN,hL,hM, *];done)
abbrev pV (d:aI)(l:List aN)(m:List aO):Prop:=Cn 39 [.agg [.sl 88 3 (d.tables.map aB)],.one (.sl 77 3 (l.map aD)),.one (.sl 81 4 (m.map aG))] (vB (dN d l m)) []
theorem aAg (d:aI)(l:List aN)(m:List aO)(hc:aT d<=1048576):pV d l m:=by
 refine cq Tryz.func39 (.len l.length<| .br (.fin []) (.len m.length<| .lit<| .lit<| .br (.fin []) (.loop Nat (Q1 Nat) ([7]++rg 17 13) [] (fun k=>[(7,vI (k:Int))]) (fun k=>[]) (fun k=>k<=l.length/\(l.take k).all (gB d)=true) (fun k=>l.length - k) (fun k=> .len l.length<| .br (.elem _ aD l (fun e26=> .call (vB (gB d e26)) []<| .br (.fin []) (.back []))) (.loop Nat (Q1 Nat) ([8]++rg 30 13) [] (fun j=>[(8,vI (j:Int))]) (fun j=>[]) (fun j=>j<=m.length/\(m.take j).all (gC d)=true) (fun j=>m.length - j) (fun j=> .len m.length<| .br (.elem _ aG m (fun e39=> .call (vB (gC d e39)) []<| .br (.fin []) (.back []))) (.fin []))))))) (p:=Lx (d.tables.map aB)<| Lx (l.map aD)<| Lx (m.map aG)<| Lm aD l/\Br (8<(l.length:Int)) ((false)=(dN d l m)/\True) (Lm aG m/\Br (8<(m.length:Int)) ((false)=(dN d l m)/\True) ((∃(k:Nat),0=(k:Int)/\k<=l.length/\(l.take k).all (gB d)=true)/\ ∀(k:Nat),(k<=l.length/\(l.take k).all (gB d)=true)->Lm aD l/\Br ((k:Int)<(l.length:Int)) (0<=(k:Int)/\Em aD l k fun e26=>sP d e26/\Nr (gB d e26) ((false)=(dN d l m)/\True) (cW ((k:Int)+1)/\ ∃(k' :Nat),((k:Int)+1)=(k' :Int)/\(k' <=l.length/\(l.take k').all (gB d)=true)/\l.length - k' <l.length - k)) ((∃(j:Nat),0=(j:Int)/\j<=m.length/\(m.take j).all (gC d)=true)/\ ∀(j:Nat),(j<=m.length/\(m.take j).all (gC d)=true)->Lm aG m/\Br ((j:Int)<(m.length:Int)) (0<=(j:Int)/\Em aG m j fun e39=>sQ d e39/\Nr (gC d e39) ((false)=(dN d l m)/\True) (cW ((j:Int)+1)/\ ∃(j' :Nat),((j:Int)+1)=(j' :Int)/\(j' <=m.length/\(m.take j').all (gC d)=true)/\m.length - j' <m.length - j)) ((true)=(dN d l m)/\True))))) (by kernel_rfl) ?_;refine lx fun n0=>lx fun n1=>lx fun n2=>?_;refine⟨aAK _,dd (fun g12=>?_) fun g12=>?_⟩
 ·have hbad:(decide ((l.length:Int)<=8)&&decide ((m.length:Int)<=8))=false:=by (simp;omega)
  apply et1
  ·(rw[dN,hbad];simp;done)
 ·refine⟨aAK _,dd (fun c0=>?_) fun c0=>?_⟩
  ·have hbad:(decide ((l.length:Int)<=8)&&decide ((m.length:Int)<=8))=false:=by (simp;omega)
   apply et1
   ·(rw[dN,hbad];simp;done)
  ·have hz:(decide ((l.length:Int)<=8)&&decide ((m.length:Int)<=8))=true:=by simp;omega
   refine⟨⟨0,rfl,aAd _,rfl⟩,fun k ⟨hk,ha⟩=>?_⟩;refine⟨aAK _,dd (fun c1=>?_) fun c1=>?_⟩
   ·refine⟨by omega,rfl,by omega,fun e26 h26=>?_⟩;refine⟨aDB _ _ (by omega),dm (fun c2=>?_) fun c2=>?_⟩
    ·have hL:l.all (gB d)=false:=iK h26 (by simpa using c2);apply et1
     ·(rw[dN,hL];rfl)
    ·refine⟨⟨by omega,by omega⟩,?_⟩;exact⟨k+1,rfl,⟨by omega,dP h26 ha (by simpa using c2)⟩,by omega⟩
   ·have hL:=dQ (by omega) ha;refine⟨⟨0,rfl,aAd _,rfl⟩,fun j ⟨hj,hb⟩=>?_⟩;refine⟨aAK _,dd (fun c3=>?_) fun c3=>?_⟩
    ·refine⟨by omega,rfl,by omega,fun e39 h39=>?_⟩;refine⟨aDC _ _ (by omega),dm (fun c4=>?_) fun c4=>?_⟩
     ·have hM:m.all (gC d)=false:=iK h39 (by simpa using c4);apply et1
      ·(rw[dN,hL,hM,hz];rfl)
     ·refine⟨⟨by omega,by omega⟩,?_⟩;exact⟨j+1,rfl,⟨by omega,dP h39 hb (by simpa using c4)⟩,by omega⟩
    ·have hM:=dQ (by omega) hb;apply et1
     ·(rw[dN,hL,hM,hz];rfl)
def bU (s:bE):Bool:=(bO s.database s.catalogue.version).2&&(decide ((bO s.database s.catalogue.version).1=s.catalogue)&&dN s.database s.dependencies s.inclusions)
abbrev nH (s:bE):Prop:=Cn 10 [.agg [.sl 88 3 (s.database.tables.map aB),.int .i64 s.catalogue.version,.sl 91 4 (s.catalogue.tables.map aC),.sl 77 3 (s.dependencies.map aD),.sl 81 4 (s.inclusions.map aG)]] (vB (bU s)) []
theorem wI (s:bE)(hc:dE s<=1048576):nH s:=by
 refine cq Tryz.func10 (bC (mH s.database s.catalogue.version)<| .br (.call (vB (decide (((bO s.database s.catalogue.version).1)=s.catalogue))) []<| .lit<| .br (.call (vB (dN s.database s.dependencies s.inclusions)) []<| .fin []) (.fin [])) (.fin [])) (p:=Lx (s.database.tables.map aB)<| Lx (s.catalogue.tables.map aC)<| Lx (s.dependencies.map aD)<| Lx (s.inclusions.map aG)<| pC s.database s.catalogue.version/\Bb ((bO s.database s.catalogue.version).2) (lH ((bO s.database s.catalogue.version).1) s.catalogue/\Br (((bO s.database s.catalogue.version).1)=s.catalogue) (vJ s.database s.dependencies s.inclusions/\(dN s.database s.dependencies s.inclusions)=(bU s)/\True) ((false)=(bU s)/\True)) ((false)=(bU s)/\True)) (by kernel_rfl) ?_;refine lx fun n0=>lx fun n1=>lx fun n2=>lx fun n3=>?_;have hS:dE s=aT s.database+cI s.catalogue+bF s.dependencies+bV s.inclusions:=rfl;have hsm:=oH s.database s.catalogue.version;refine⟨zR s.database s.catalogue.version,db (fun g15=>?_) fun g15=>?_⟩
 ·refine⟨sF _ _,dd (fun g21=>?_) fun g21=>?_⟩
  ·refine⟨aE8 s.database _ _ (by omega),?_,trivial⟩
   ·(simp[bU, *];done)
  ·apply et1
   ·(simp[bU, *];done)
 ·apply et1
  ·(simp[bU, *];done)
abbrev nI (s:bE):Prop:=Cn 11 [.agg [.sl 88 3 (s.database.tables.map aB),.int .i64 s.catalogue.version,.sl 91 4 (s.catalogue.tables.map aC),.sl 77 3 (s.dependencies.map aD),.sl 81 4 (s.inclusions.map aG)]] (vB (bU s)) []
theorem wJ (s:bE)(hc:dE s<=1048576):nI s:=by
 refine cq Tryz.func11 (bC (kM s.database s.catalogue.version)<| .br (.call (vB (decide (((bO s.database s.catalogue.version).1)=s.catalogue))) []<| .lit<| .br (.call (vB (dN s.database s.dependencies s.inclusions)) []<| .fin []) (.fin [])) (.fin [])) (p:=Lx (s.database.tables.map aB)<| Lx (s.catalogue.tables.map aC)<| Lx (s.dependencies.map aD)<| Lx (s.inclusions.map aG)<| mI s.database s.catalogue.version/\Bb ((bO s.database s.catalogue.version).2) (sG ((bO s.database s.catalogue.version).1) s.catalogue/\Br (((bO s.database s.catalogue.version).1)=s.catalogue) (pV s.database s.dependencies s.inclusions/\(dN s.database s.dependencies s.inclusions)=(bU s)/\True) ((false)=(bU s)/\True)) ((false)=(bU s)/\True)) (by kernel_rfl) ?_;refine lx fun n0=>lx fun n1=>lx fun n2=>lx fun n3=>?_;have hS:dE s=aT s.database+cI s.catalogue+bF s.dependencies+bV s.inclusions:=rfl;have hsm:=oH s.database s.catalogue.version;refine⟨uZ s.database s.catalogue.version,db (fun g15=>?_) fun g15=>?_⟩
 ·refine⟨aC1 _ _ (by omega),dd (fun g21=>?_) fun g21=>?_⟩
  ·refine⟨aAg s.database _ _ (by omega),?_,trivial⟩
   ·(simp[bU, *];done)
  ·apply et1
   ·(simp[bU, *];done)
 ·apply et1
  ·(simp[bU, *];done)
abbrev gY (d:aI):AV × List (Nat × Rs):=(.agg [.own 0],[(0,.arr 88 3 true (d.tables.map aB))])
abbrev iJ (d:aI):Prop:=Cn 83 [.agg [.sl 88 3 (d.tables.map aB)]] (gY d).1 (gY d).2
theorem nJ (d:aI)(hc:aT d<=1048576):iJ d:=by
 refine cq Tryz.func83 (.len d.tables.length<| .loop (Nat × (List aJ)) (Q2 Nat (List aJ)) ([5]++rg 10 12) [300,500,1700,1800,1900,9000] (fun yy0=>[(10,vI (yy0.1:Int))]) (fun yy0=>[(300,some (.box 26 [.own 9000])),(9000,some (.arr 88 3 true (yy0.2.map aB)))]) (fun yy0=>yy0.1<=d.tables.length/\yy0.2=d.tables.take yy0.1) (fun yy0=>d.tables.length - yy0.1) (fun yy0=> .br (.elem _ aB d.tables (fun e12=>bC (fZ e12)<| .appx aJ aB yy0.2 e12<| .back [(300,300),(9000,1900)])) (.fin [(0,9000)]))) (p:=Lx (d.tables.map aB)<| Lm aB d.tables/\((∃(k:Nat) (out:List aJ),0=(k:Int)/\[]=out.map aB/\k<=d.tables.length/\out=d.tables.take k)/\ ∀(k:Nat) (out:List aJ),(k<=d.tables.length/\out=d.tables.take k)->Br ((k:Int)<(d.tables.length:Int)) (0<=(k:Int)/\Em aB d.tables k fun e12=>gW e12/\out.map aB=out.map aB/\e12.name=e12.name/\e12.arity=e12.arity/\e12.rows.map aE=e12.rows.map aE/\(out.length+1)*48<=140737488355328/\cW ((k:Int)+1)/\ ∃(k' :Nat) (out' :List aJ),((k:Int)+1)=(k' :Int)/\(out++[e12]).map aB=out'.map aB/\(k' <=d.tables.length/\out' =d.tables.take k')/\d.tables.length - k' <d.tables.length - k) (out.map aB=d.tables.map aB/\True))) (by kernel_rfl) ?_;refine lx fun n0=>?_;have q1:aT d=lD d.tables:=rfl;have q2:=aAr d.tables;refine⟨aAK _,⟨0,([]:List aJ),rfl,rfl,aAd _,rfl⟩,fun k out ⟨hk,ho⟩=>?_⟩;refine dd (fun c0=>?_) fun c0=>?_
 ·refine⟨by omega,rfl,by omega,fun e12 h12=>?_⟩;have q3:=gT h12;refine⟨lJ _ (by omega),rfl,rfl,rfl,rfl,by first|omega|(simp;omega)|(simp[ho];omega),⟨by omega,by omega⟩,?_⟩;exact⟨k+1,_,rfl,rfl,⟨by omega,by rw[ho,cC h12]⟩,by omega⟩
 ·apply et1
  ·first|rfl|(rw[ho,aCv (by omega)])
abbrev fI (d:aI):AV × List (Nat × Rs):=(.agg [.own 0],[(0,.arr 88 3 true (d.tables.map aB))])
abbrev gD (d:aI):Prop:=Cn 92 [.agg [.sl 88 3 (d.tables.map aB)]] (fI d).1 (fI d).2
theorem kC (d:aI)(hc:aT d<=1048576):gD d:=by
 refine cq Tryz.func92 (.loop (Nat × (List aJ)) (Q2 Nat (List aJ)) ([4,5]++rg 7 19) [300,500,1900,2300,2400,9000] (fun yy0=>[(4,vI (yy0.1:Int))]) (fun yy0=>[(300,some (.box 26 [.own 9000])),(9000,some (.arr 88 3 true (yy0.2.map aB)))]) (fun yy0=>yy0.1<=d.tables.length/\yy0.2=d.tables.take yy0.1) (fun yy0=>d.tables.length - yy0.1) (fun yy0=> .len d.tables.length<| .br (.elem _ aB d.tables (fun e17=>bC (gA e17)<| .appx aJ aB yy0.2 e17<| .back [(300,300),(9000,2400)])) (.fin [(0,9000)]))) (p:=Lx (d.tables.map aB)<| (∃(k:Nat) (out:List aJ),0=(k:Int)/\[]=out.map aB/\k<=d.tables.length/\out=d.tables.take k)/\ ∀(k:Nat) (out:List aJ),(k<=d.tables.length/\out=d.tables.take k)->Lm aB d.tables/\Br ((k:Int)<(d.tables.length:Int)) (0<=(k:Int)/\Em aB d.tables k fun e17=>gX e17/\out.map aB=out.map aB/\e17.name=e17.name/\e17.arity=e17.arity/\e17.rows.map aE=e17.rows.map aE/\(out.length+1)*48<=140737488355328/\cW ((k:Int)+1)/\ ∃(k' :Nat) (out' :List aJ),((k:Int)+1)=(k' :Int)/\(out++[e17]).map aB=out'.map aB/\(k' <=d.tables.length/\out' =d.tables.take k')/\d.tables.length - k' <d.tables.length - k) (out.map aB=d.tables.map aB/\True)) (by kernel_rfl) ?_;refine lx fun n0=>?_;have q1:aT d=lD d.tables:=rfl;have q2:=aAr d.tables;refine⟨⟨0,([]:List aJ),rfl,rfl,aAd _,rfl⟩,fun k out ⟨hk,ho⟩=>?_⟩;refine⟨aAK _,dd (fun c0=>?_) fun c0=>?_⟩
 ·refine⟨by omega,rfl,by omega,fun e17 h17=>?_⟩;have q3:=gT h17;refine⟨lK _ (by omega),rfl,rfl,rfl,rfl,by first|omega|(simp;omega)|(simp[ho];omega),⟨by omega,by omega⟩,?_⟩;exact⟨k+1,_,rfl,rfl,⟨by omega,by rw[ho,cC h17]⟩,by omega⟩
 ·apply et1
  ·first|rfl|(rw[ho,aCv (by omega)])
abbrev yB (c:dI):AV × List (Nat × Rs):=(.agg [vI c.version,.own 0],[(0,.arr 91 4 true (c.tables.map aC))])
abbrev aDD (c:dI):Prop:=Cn 84 [.agg [.int .i64 c.version,.sl 91 4 (c.tables.map aC)]] (yB c).1 (yB c).2
theorem aLr (c:dI)(hc:cI c<=1048576):aDD c:=by
 refine cq Tryz.func84 (.len c.tables.length<| .loop (Nat × (List aQ)) (Q2 Nat (List aQ)) ([5]++rg 12 12) [300,500,1900,2000,2100,9000] (fun yy0=>[(12,vI (yy0.1:Int))]) (fun yy0=>[(300,some (.box 29 [vI c.version,.own 9000])),(9000,some (.arr 91 4 true (yy0.2.map aC)))]) (fun yy0=>yy0.1<=c.tables.length/\yy0.2=c.tables.take yy0.1) (fun yy0=>c.tables.length - yy0.1) (fun yy0=> .br (.elem _ aC c.tables (fun e14=>bC (xT e14)<| .appx aQ aC yy0.2 e14<| .back [(300,300),(9000,2100)])) (.fin [(0,9000)]))) (p:=Lx (c.tables.map aC)<| Lm aC c.tables/\((∃(k:Nat) (out:List aQ),0=(k:Int)/\c.version=c.version/\[]=out.map aC/\k<=c.tables.length/\out=c.tables.take k)/\ ∀(k:Nat) (out:List aQ),(k<=c.tables.length/\out=c.tables.take k)->Br ((k:Int)<(c.tables.length:Int)) (0<=(k:Int)/\Em aC c.tables k fun e14=>aCh e14/\out.map aC=out.map aC/\e14.name=e14.name/\e14.arity=e14.arity/\e14.rowCount=e14.rowCount/\e14.groups.map aM=e14.groups.map aM/\(out.length+1)*56<=140737488355328/\cW ((k:Int)+1)/\ ∃(k' :Nat) (out' :List aQ),((k:Int)+1)=(k' :Int)/\c.version=c.version/\(out++[e14]).map aC=out'.map aC/\(k' <=c.tables.length/\out' =c.tables.take k')/\c.tables.length - k' <c.tables.length - k) (c.version=c.version/\out.map aC=c.tables.map aC/\True))) (by kernel_rfl) ?_;refine lx fun n0=>?_;have q1:cI c=fA c.tables:=rfl;have q2:=rD c.tables;refine⟨aAK _,⟨0,([]:List aQ),rfl,rfl,rfl,aAd _,rfl⟩,fun k out ⟨hk,ho⟩=>?_⟩;refine dd (fun c0=>?_) fun c0=>?_
 ·refine⟨by omega,rfl,by omega,fun e14 h14=>?_⟩;have q3:=nM h14;refine⟨aLc _ (by omega),rfl,rfl,rfl,rfl,rfl,by first|omega|(simp;omega)|(simp[ho];omega),⟨by omega,by omega⟩,?_⟩;exact⟨k+1,_,rfl,rfl,rfl,⟨by omega,by rw[ho,cC h14]⟩,by omega⟩
 ·refine⟨rfl,?_,trivial⟩
  ·first|rfl|(rw[ho,aCv (by omega)])
abbrev yC (c:dI):AV × List (Nat × Rs):=(.agg [vI c.version,.own 0],[(0,.arr 91 4 true (c.tables.map aC))])
abbrev aDE (c:dI):Prop:=Cn 93 [.agg [.int .i64 c.version,.sl 91 4 (c.tables.map aC)]] (yC c).1 (yC c).2
theorem aLs (c:dI)(hc:cI c<=1048576):aDE c:=by
 refine cq Tryz.func93 (.loop (Nat × (List aQ)) (Q2 Nat (List aQ)) ([4,5]++rg 9 19) [300,500,2100,2500,2600,9000] (fun yy0=>[(4,vI (yy0.1:Int))]) (fun yy0=>[(300,some (.box 29 [vI c.version,.own 9000])),(9000,some (.arr 91 4 true (yy0.2.map aC)))]) (fun yy0=>yy0.1<=c.tables.length/\yy0.2=c.tables.take yy0.1) (fun yy0=>c.tables.length - yy0.1) (fun yy0=> .len c.tables.length<| .br (.elem _ aC c.tables (fun e19=>bC (yA e19)<| .appx aQ aC yy0.2 e19<| .back [(300,300),(9000,2600)])) (.fin [(0,9000)]))) (p:=Lx (c.tables.map aC)<| (∃(k:Nat) (out:List aQ),0=(k:Int)/\c.version=c.version/\[]=out.map aC/\k<=c.tables.length/\out=c.tables.take k)/\ ∀(k:Nat) (out:List aQ),(k<=c.tables.length/\out=c.tables.take k)->Lm aC c.tables/\Br ((k:Int)<(c.tables.length:Int)) (0<=(k:Int)/\Em aC c.tables k fun e19=>aCy e19/\out.map aC=out.map aC/\e19.name=e19.name/\e19.arity=e19.arity/\e19.rowCount=e19.rowCount/\e19.groups.map aM=e19.groups.map aM/\(out.length+1)*56<=140737488355328/\cW ((k:Int)+1)/\ ∃(k' :Nat) (out' :List aQ),((k:Int)+1)=(k' :Int)/\c.version=c.version/\(out++[e19]).map aC=out'.map aC/\(k' <=c.tables.length/\out' =c.tables.take k')/\c.tables.length - k' <c.tables.length - k) (c.version=c.version/\out.map aC=c.tables.map aC/\True)) (by kernel_rfl) ?_;refine lx fun n0=>?_;have q1:cI c=fA c.tables:=rfl;have q2:=rD c.tables;refine⟨⟨0,([]:List aQ),rfl,rfl,rfl,aAd _,rfl⟩,fun k out ⟨hk,ho⟩=>?_⟩;refine⟨aAK _,dd (fun c0=>?_) fun c0=>?_⟩
 ·refine⟨by omega,rfl,by omega,fun e19 h19=>?_⟩;have q3:=nM h19;refine⟨aLq _ (by omega),rfl,rfl,rfl,rfl,rfl,by first|omega|(simp;omega)|(simp[ho];omega),⟨by omega,by omega⟩,?_⟩;exact⟨k+1,_,rfl,rfl,rfl,⟨by omega,by rw[ho,cC h19]⟩,by omega⟩
 ·refine⟨rfl,?_,trivial⟩
  ·first|rfl|(rw[ho,aCv (by omega)])
abbrev yD (l:List aN):AV × List (Nat × Rs):=(.own 0,[(0,.arr 77 3 true (l.map aD))])
abbrev aDF (l:List aN):Prop:=Cn 85 [.one (.sl 77 3 (l.map aD))] (yD l).1 (yD l).2
theorem aLt (l:List aN)(hc:bF l<=1048576):aDF l:=by
 refine cq Tryz.func85 (.len l.length<| .loop (Nat × (List aN)) (Q2 Nat (List aN)) ([3,5,6]++rg 9 13) [500,600,1500,1900,2000] (fun yy0=>[(9,vI (yy0.1:Int)),(3,.own 600)]) (fun yy0=>[(600,some (.arr 77 3 true (yy0.2.map aD)))]) (fun yy0=>yy0.1<=l.length/\yy0.2=l.take yy0.1) (fun yy0=>l.length - yy0.1) (fun yy0=> .br (.elem _ aD l (fun e11=>bC (aEU e11.src)<| .appx aN aD yy0.2 e11<| .back [(600,2000)])) (.fin [(0,600)]))) (p:=Lx (l.map aD)<| Lm aD l/\((∃(k:Nat) (out:List aN),0=(k:Int)/\[]=out.map aD/\k<=l.length/\out=l.take k)/\ ∀(k:Nat) (out:List aN),(k<=l.length/\out=l.take k)->Br ((k:Int)<(l.length:Int)) (0<=(k:Int)/\Em aD l k fun e11=>aGW e11.src/\out.map aD=out.map aD/\e11.name=e11.name/\e11.src.map intD=e11.src.map intD/\e11.dst=e11.dst/\(out.length+1)*48<=140737488355328/\cW ((k:Int)+1)/\ ∃(k' :Nat) (out' :List aN),((k:Int)+1)=(k' :Int)/\(out++[e11]).map aD=out'.map aD/\(k' <=l.length/\out' =l.take k')/\l.length - k' <l.length - k) (out.map aD=l.map aD/\True))) (by kernel_rfl) ?_;refine lx fun n0=>?_;have q2:=mC l;refine⟨aAK _,⟨0,([]:List aN),rfl,rfl,aAd _,rfl⟩,fun k out ⟨hk,ho⟩=>?_⟩;refine dd (fun c0=>?_) fun c0=>?_
 ·refine⟨by omega,rfl,by omega,fun e11 h11=>?_⟩
  try (obtain rfl:=(bA h11 h11).symm)
  have q3:=tA h11;have q4:dM e11=e11.name.size+fL e11.src:=rfl;have q5:fL e11.src=e11.src.length:=rfl;refine⟨cpI _ (by omega),rfl,rfl,rfl,rfl,by first|omega|(simp;omega)|(simp[ho];omega),⟨by omega,by omega⟩,?_⟩;exact⟨k+1,_,rfl,rfl,⟨by omega,by rw[ho,cC h11]<;>rfl⟩,by omega⟩
 ·apply et1
  ·first|rfl|(rw[ho,aCv (by omega)])
abbrev pG (l:List aN):AV × List (Nat × Rs):=(.own 0,[(0,.arr 77 3 true (l.map aD))])
abbrev sR (l:List aN):Prop:=Cn 40 [.one (.sl 77 3 (l.map aD))] (pG l).1 (pG l).2
theorem aDG (l:List aN)(hc:bF l<=1048576):sR l:=by
 refine cq Tryz.func40 (.loop (Nat × (List aN)) (Q2 Nat (List aN)) (rg 3 30) [500,1800,2400,3100,3200] (fun yy0=>[(4,vI (yy0.1:Int)),(3,.own 500)]) (fun yy0=>[(500,some (.arr 77 3 true (yy0.2.map aD)))]) (fun yy0=>yy0.1<=l.length/\yy0.2=l.take yy0.1) (fun yy0=>l.length - yy0.1) (fun yy0=> .len l.length<| .br (.elem _ aD l (fun e15=> .elem _ aD l (fun e21=> .app Int intD ([]:List Int) e21.src<| .elem _ aD l (fun e27=> .appx aN aD yy0.2 (⟨e15.name,([]:List Int)++e21.src,e27.dst⟩:aN)<| .back [(500,3200)])))) (.fin [(0,500)]))) (p:=Lx (l.map aD)<| (∃(k:Nat) (out:List aN),0=(k:Int)/\[]=out.map aD/\k<=l.length/\out=l.take k)/\ ∀(k:Nat) (out:List aN),(k<=l.length/\out=l.take k)->Lm aD l/\Br ((k:Int)<(l.length:Int)) (0<=(k:Int)/\Em aD l k fun e15=>0<=(k:Int)/\Em aD l k fun e21=>Ap intD ([]:List Int) e21.src 8 (0<=(k:Int)/\Em aD l k fun e27=>out.map aD=out.map aD/\e15.name=((⟨e15.name,([]:List Int)++e21.src,e27.dst⟩:aN).name)/\(([]:List Int)++e21.src).map intD=(⟨e15.name,([]:List Int)++e21.src,e27.dst⟩:aN).src.map intD/\e27.dst=((⟨e15.name,([]:List Int)++e21.src,e27.dst⟩:aN).dst)/\(out.length+1)*48<=140737488355328/\cW ((k:Int)+1)/\ ∃(k' :Nat) (out' :List aN),((k:Int)+1)=(k' :Int)/\(out++[(⟨e15.name,([]:List Int)++e21.src,e27.dst⟩:aN)]).map aD=out'.map aD/\(k' <=l.length/\out' =l.take k')/\l.length - k' <l.length - k)) (out.map aD=l.map aD/\True)) (by kernel_rfl) ?_;refine lx fun n0=>?_;have q2:=mC l;refine⟨⟨0,([]:List aN),rfl,rfl,aAd _,rfl⟩,fun k out ⟨hk,ho⟩=>?_⟩;refine⟨aAK _,dd (fun c0=>?_) fun c0=>?_⟩
 ·refine⟨by omega,rfl,by omega,fun e15 h15=>?_⟩
  try (obtain rfl:=(bA h15 h15).symm)
  have q3:=tA h15;have q4:dM e15=e15.name.size+fL e15.src:=rfl;have q5:fL e15.src=e15.src.length:=rfl;refine⟨by omega,rfl,by omega,fun e21 h21=>?_⟩
  try (obtain rfl:=(bA h15 h21).symm)
  refine ap ?_ (fun _=>rfl) (by first|omega|(simp;omega)|(simp[ho];omega));refine⟨by omega,rfl,by omega,fun e27 h27=>?_⟩
  try (obtain rfl:=(bA h15 h27).symm)
  refine⟨rfl,rfl,rfl,rfl,by first|omega|(simp;omega)|(simp[ho];omega),⟨by omega,by omega⟩,?_⟩;exact⟨k+1,_,rfl,rfl,⟨by omega,by rw[ho,cC h15]<;>rfl⟩,by omega⟩
 ·apply et1
  ·first|rfl|(rw[ho,aCv (by omega)])
abbrev pW (s:bE):AV × List (Nat × Rs):=(.agg [.own 0,vI s.catalogue.version,.own 1,.own 2,.own 3],[(0,.arr 88 3 true (s.database.tables.map aB)),(1,.arr 91 4 true (s.catalogue.tables.map aC)),(2,.arr 77 3 true (s.dependencies.map aD)),(3,.arr 81 4 true (s.inclusions.map aG))])
abbrev vK (s:bE):Prop:=Cn 34 [.agg [.sl 88 3 (s.database.tables.map aB),.int .i64 s.catalogue.version,.sl 91 4 (s.catalogue.tables.map aC),.sl 77 3 (s.dependencies.map aD),.sl 81 4 (s.inclusions.map aG)]] (pW s).1 (pW s).2
theorem aE9 (s:bE)(h1:aT s.database<=1048576)(h2:cI s.catalogue<=1048576)(h3:bF s.dependencies<=1048576)(h4:s.inclusions.length<=1048576):vK s:=by
 refine cq Tryz.func34 (bC (gY s.database)<| bC (yB s.catalogue)<| bC (yD s.dependencies)<| .app aO aG ([]:List aO) s.inclusions<| .fin [(0,500),(1,800),(2,1100),(3,1500)]) (p:=Lx (s.database.tables.map aB)<| Lx (s.catalogue.tables.map aC)<| Lx (s.dependencies.map aD)<| Lx (s.inclusions.map aG)<| iJ s.database/\aDD s.catalogue/\aDF s.dependencies/\Ap aG ([]:List aO) s.inclusions 48 (s.catalogue.version=s.catalogue.version/\s.database.tables.map aB=s.database.tables.map aB/\s.catalogue.tables.map aC=s.catalogue.tables.map aC/\s.dependencies.map aD=s.dependencies.map aD/\(([]:List aO)++s.inclusions).map aG=s.inclusions.map aG/\True)) (by kernel_rfl) ?_;refine lx fun n0=>lx fun n1=>lx fun n2=>lx fun n3=>?_;refine⟨nJ s.database (by omega),aLr s.catalogue (by omega),aLt _ (by omega),?_⟩;refine ap ?_ (fun _=>rfl) (by first|omega|(simp;omega));refine⟨rfl,rfl,rfl,rfl,?_,trivial⟩
 ·rfl
abbrev jF (s:bE):AV × List (Nat × Rs):=(.agg [.own 0,vI s.catalogue.version,.own 1,.own 2,.own 3],[(0,.arr 88 3 true (s.database.tables.map aB)),(1,.arr 91 4 true (s.catalogue.tables.map aC)),(2,.arr 77 3 true (s.dependencies.map aD)),(3,.arr 81 4 true (s.inclusions.map aG))])
abbrev kX (s:bE):Prop:=Cn 37 [.agg [.sl 88 3 (s.database.tables.map aB),.int .i64 s.catalogue.version,.sl 91 4 (s.catalogue.tables.map aC),.sl 77 3 (s.dependencies.map aD),.sl 81 4 (s.inclusions.map aG)]] (jF s).1 (jF s).2
theorem rO (s:bE)(h1:aT s.database<=1048576)(h2:cI s.catalogue<=1048576)(h3:bF s.dependencies<=1048576)(h4:s.inclusions.length<=1048576):kX s:=by
 refine cq Tryz.func37 (bC (fI s.database)<| bC (yC s.catalogue)<| bC (pG s.dependencies)<| .app aO aG ([]:List aO) s.inclusions<| .fin [(0,500),(1,800),(2,1100),(3,1500)]) (p:=Lx (s.database.tables.map aB)<| Lx (s.catalogue.tables.map aC)<| Lx (s.dependencies.map aD)<| Lx (s.inclusions.map aG)<| gD s.database/\aDE s.catalogue/\sR s.dependencies/\Ap aG ([]:List aO) s.inclusions 48 (s.catalogue.version=s.catalogue.version/\s.database.tables.map aB=s.database.tables.map aB/\s.catalogue.tables.map aC=s.catalogue.tables.map aC/\s.dependencies.map aD=s.dependencies.map aD/\(([]:List aO)++s.inclusions).map aG=s.inclusions.map aG/\True)) (by kernel_rfl) ?_;refine lx fun n0=>lx fun n1=>lx fun n2=>lx fun n3=>?_;refine⟨kC s.database (by omega),aLs s.catalogue (by omega),aDG _ (by omega),?_⟩;refine ap ?_ (fun _=>rfl) (by first|omega|(simp;omega));refine⟨rfl,rfl,rfl,rfl,?_,trivial⟩
 ·rfl
abbrev pX (d:aI)(t:aJ):AV × List (Nat × Rs):=(.tup [.agg [.own 0],vB ((dL d t).2)],[(0,.arr 88 3 true ((dL d t).1.tables.map aB))])
abbrev vL (d:aI)(t:aJ):Prop:=Cn 89 [.agg [.sl 88 3 (d.tables.map aB)],.agg [.str t.name,.int .i64 t.arity,.sl 34 1 (t.rows.map aE)]] (pX d t).1 (pX d t).2
theorem aEa (d:aI)(t:aJ)(hc:aT d<=1048576):vL d t:=by
 refine cq Tryz.func89 (.call (vB (dT d)) []<| .br (bC (gY d)<| .fin [(0,1900)]) (.call (vB (aP t)) []<| .lit<| .lit<| .br (bC (gY d)<| .fin [(0,1900)]) (.len d.tables.length<| .loop (Nat × (List aJ) × Bool) (Q3 Nat (List aJ) Bool) ([7,9]++rg 24 33) [600,900,4000,4100,4200,5200,5300,5400,9000] (fun yy0=>[(24,vI (yy0.1:Int)),(7,vB yy0.2.2)]) (fun yy0=>[(600,some (.box 26 [.own 9000])),(9000,some (.arr 88 3 true (yy0.2.1.map aB)))]) (fun yy0=>yy0.1<=d.tables.length/\yy0.2.1.length<=2*yy0.1/\yy0.2.1++qP t yy0.2.2 (d.tables.drop yy0.1)=fD t d.tables) (fun yy0=>d.tables.length - yy0.1) (fun yy0=> .br (.elem _ aB d.tables (fun e26=> .br (.lit<| .lit<| .lit<| .lit<| .lit<| .br (bC (fZ t)<| .appx aJ aB yy0.2.1 t<| .br (bC (fZ e26)<| .appx aJ aB (yy0.2.1++[t]) e26<| .back [(600,600),(9000,5400)]) (.back [(600,600),(9000,4200)])) (.br (bC (fZ e26)<| .appx aJ aB yy0.2.1 e26<| .back [(600,600),(9000,5400)]) (.back [(600,600),(9000,9000)]))) (.lit<| .lit<| .lit<| .lit<| .lit<| .lit<| .br (bC (fZ e26)<| .appx aJ aB yy0.2.1 e26<| .back [(600,600),(9000,5400)]) (.back [(600,600),(9000,9000)])))) (.br (bC (fZ t)<| .appx aJ aB yy0.2.1 t<| .len ((yy0.2.1++[t]).length)<| .br (bC (gY d)<| .fin [(0,7100)]) (.fin [(0,6400)])) (.len yy0.2.1.length<| .br (bC (gY d)<| .fin [(0,7100)]) (.fin [(0,9000)]))))))) (p:=Lx (d.tables.map aB)<| Lx (t.rows.map aE)<| wE d/\Nr (dT d) (iJ d/\(false)=((dL d t).2)/\d.tables.map aB=(dL d t).1.tables.map aB/\True) (kJ t/\Nr (aP t) (iJ d/\(false)=((dL d t).2)/\d.tables.map aB=(dL d t).1.tables.map aB/\True) (Lm aB d.tables/\((∃(k:Nat) (out:List aJ) (p:Bool),0=(k:Int)/\(false)=p/\[]=out.map aB/\k<=d.tables.length/\out.length<=2*k/\out++qP t p (d.tables.drop k)=fD t d.tables)/\ ∀(k:Nat) (out:List aJ) (p:Bool),(k<=d.tables.length/\out.length<=2*k/\out++qP t p (d.tables.drop k)=fD t d.tables)->Br ((k:Int)<(d.tables.length:Int)) (0<=(k:Int)/\Em aB d.tables k fun e26=>Nr (p) (Nr (Op.bytesLess e26.name.toList t.name.toList) (gW t/\out.map aB=out.map aB/\t.name=t.name/\t.arity=t.arity/\t.rows.map aE=t.rows.map aE/\(out.length+1)*48<=140737488355328/\Nr (e26.name.toList==t.name.toList) (gW e26/\(out++[t]).map aB=(out++[t]).map aB/\e26.name=e26.name/\e26.arity=e26.arity/\e26.rows.map aE=e26.rows.map aE/\((out++[t]).length+1)*48<=140737488355328/\cW ((k:Int)+1)/\ ∃(k' :Nat) (out' :List aJ) (p' :Bool),((k:Int)+1)=(k' :Int)/\(true)=p' /\((out++[t])++[e26]).map aB=out'.map aB/\(k' <=d.tables.length/\out'.length<=2*k' /\out' ++qP t p' (d.tables.drop k')=fD t d.tables)/\d.tables.length - k' <d.tables.length - k) (cW ((k:Int)+1)/\ ∃(k' :Nat) (out' :List aJ) (p' :Bool),((k:Int)+1)=(k' :Int)/\(true)=p' /\(out++[t]).map aB=out'.map aB/\(k' <=d.tables.length/\out'.length<=2*k' /\out' ++qP t p' (d.tables.drop k')=fD t d.tables)/\d.tables.length - k' <d.tables.length - k)) (Nr (e26.name.toList==t.name.toList) (gW e26/\out.map aB=out.map aB/\e26.name=e26.name/\e26.arity=e26.arity/\e26.rows.map aE=e26.rows.map aE/\(out.length+1)*48<=140737488355328/\cW ((k:Int)+1)/\ ∃(k' :Nat) (out' :List aJ) (p' :Bool),((k:Int)+1)=(k' :Int)/\(p)=p' /\(out++[e26]).map aB=out'.map aB/\(k' <=d.tables.length/\out'.length<=2*k' /\out' ++qP t p' (d.tables.drop k')=fD t d.tables)/\d.tables.length - k' <d.tables.length - k) (cW ((k:Int)+1)/\ ∃(k' :Nat) (out' :List aJ) (p' :Bool),((k:Int)+1)=(k' :Int)/\(p)=p' /\out.map aB=out'.map aB/\(k' <=d.tables.length/\out'.length<=2*k' /\out' ++qP t p' (d.tables.drop k')=fD t d.tables)/\d.tables.length - k' <d.tables.length - k))) (Nr (e26.name.toList==t.name.toList) (gW e26/\out.map aB=out.map aB/\e26.name=e26.name/\e26.arity=e26.arity/\e26.rows.map aE=e26.rows.map aE/\(out.length+1)*48<=140737488355328/\cW ((k:Int)+1)/\ ∃(k' :Nat) (out' :List aJ) (p' :Bool),((k:Int)+1)=(k' :Int)/\(p)=p' /\(out++[e26]).map aB=out'.map aB/\(k' <=d.tables.length/\out'.length<=2*k' /\out' ++qP t p' (d.tables.drop k')=fD t d.tables)/\d.tables.length - k' <d.tables.length - k) (cW ((k:Int)+1)/\ ∃(k' :Nat) (out' :List aJ) (p' :Bool),((k:Int)+1)=(k' :Int)/\(p)=p' /\out.map aB=out'.map aB/\(k' <=d.tables.length/\out'.length<=2*k' /\out' ++qP t p' (d.tables.drop k')=fD t d.tables)/\d.tables.length - k' <d.tables.length - k))) (Nr (p) (gW t/\out.map aB=out.map aB/\t.name=t.name/\t.arity=t.arity/\t.rows.map aE=t.rows.map aE/\(out.length+1)*48<=140737488355328/\Lm aB (out++[t])/\Br (6<(((out++[t]).length:Nat):Int)) (iJ d/\(false)=((dL d t).2)/\d.tables.map aB=(dL d t).1.tables.map aB/\True) ((true)=((dL d t).2)/\(out++[t]).map aB=(dL d t).1.tables.map aB/\True)) (Lm aB out/\Br (6<(out.length:Int)) (iJ d/\(false)=((dL d t).2)/\d.tables.map aB=(dL d t).1.tables.map aB/\True) ((true)=((dL d t).2)/\out.map aB=(dL d t).1.tables.map aB/\True))))))) (by kernel_rfl) ?_;refine lx fun n0=>lx fun n1=>?_;have q1:aT d=lD d.tables:=rfl;refine⟨aFS d,dm (fun g13=>?_) fun g13=>?_⟩
 ·have hbad:dL d t=(d,false):=by rw[dL,if_neg (by first|(rw[c0];simp;done)|(simp[*];done))]
  refine⟨nJ _ (by omega),?_,?_,trivial⟩<;>(first|(rw[hbad]<;>rfl)|(rw[hok,hL]<;>rfl))
 ·refine⟨rG t,dm (fun c0=>?_) fun c0=>?_⟩
  ·have hbad:dL d t=(d,false):=by rw[dL,if_neg (by first|(rw[c0];simp;done)|(simp[*];done))]
   refine⟨nJ _ (by omega),?_,?_,trivial⟩<;>(first|(rw[hbad]<;>rfl)|(rw[hok,hL]<;>rfl))
  ·have hd0:dT d=true:=by simpa using g13
   have ht0:aP t=true:=by simpa using c0
   have hts:=kB ht0;have h6:=uY hd0;refine⟨aAK _,⟨0,([]:List aJ),false,rfl,rfl,rfl,aAd _,by simp,rfl⟩,fun k out p ⟨hk,hol,hv⟩=>?_⟩;refine dd (fun c1=>?_) fun c1=>?_
   ·refine⟨by omega,rfl,by omega,fun e26 h26=>?_⟩;have q3:=gT h26;refine dm (fun g30=>?_) fun g30=>?_
    ·refine dm (fun c2=>?_) fun c2=>?_
     ·refine⟨lJ _ (by omega),rfl,rfl,rfl,rfl,by first|omega|(simp;omega),dm (fun c3=>?_) fun c3=>?_⟩
      ·refine⟨lJ _ (by omega),rfl,rfl,rfl,rfl,by first|omega|(simp;omega),⟨by omega,by omega⟩,?_⟩;exact⟨k+1,_,_,rfl,rfl,rfl,⟨by omega,by first|omega|(simp;omega),by rw[<-hv,dS h26,qP];(try simp at c3);(try rw[c3] at c2);first|(simp[g30,c2,c3];done)|(simp[g30,c3];done)⟩,by omega⟩
      ·refine⟨⟨by omega,by omega⟩,?_⟩;exact⟨k+1,_,_,rfl,rfl,rfl,⟨by omega,by first|omega|(simp;omega),by rw[<-hv,dS h26,qP];(try simp at c3);(try rw[c3] at c2);first|(simp[g30,c2,c3];done)|(simp[g30,c3];done)⟩,by omega⟩
     ·refine dm (fun c3=>?_) fun c3=>?_
      ·refine⟨lJ _ (by omega),rfl,rfl,rfl,rfl,by first|omega|(simp;omega),⟨by omega,by omega⟩,?_⟩;exact⟨k+1,_,_,rfl,rfl,rfl,⟨by omega,by first|omega|(simp;omega),by rw[<-hv,dS h26,qP];(try simp at c3);(try rw[c3] at c2);first|(simp[g30,c2,c3];done)|(simp[g30,c3];done)⟩,by omega⟩
      ·refine⟨⟨by omega,by omega⟩,?_⟩;exact⟨k+1,_,_,rfl,rfl,rfl,⟨by omega,by first|omega|(simp;omega),by rw[<-hv,dS h26,qP];(try simp at c3);(try rw[c3] at c2);first|(simp[g30,c2,c3];done)|(simp[g30,c3];done)⟩,by omega⟩
    ·refine dm (fun c3=>?_) fun c3=>?_
     ·refine⟨lJ _ (by omega),rfl,rfl,rfl,rfl,by first|omega|(simp;omega),⟨by omega,by omega⟩,?_⟩;exact⟨k+1,_,_,rfl,rfl,rfl,⟨by omega,by first|omega|(simp;omega),by rw[<-hv,dS h26,qP];(try simp at c3);(try rw[c3] at c2);first|(simp[g30,c2,c3];done)|(simp[g30,c3];done)⟩,by omega⟩
     ·refine⟨⟨by omega,by omega⟩,?_⟩;exact⟨k+1,_,_,rfl,rfl,rfl,⟨by omega,by first|omega|(simp;omega),by rw[<-hv,dS h26,qP];(try simp at c3);(try rw[c3] at c2);first|(simp[g30,c2,c3];done)|(simp[g30,c3];done)⟩,by omega⟩
   ·have hdn:out++(if p=true then [] else [t])=fD t d.tables:=by rw[<-hv,oW (by omega),qP]
    refine dm (fun c4=>?_) fun c4=>?_
    ·have hL:fD t d.tables=out++[t]:=by rw[<-hdn,c4];rfl
     refine⟨lJ _ (by omega),rfl,rfl,rfl,rfl,by first|omega|(simp;omega),aAK _,dd (fun c5=>?_) fun c5=>?_⟩
     ·have hbad:dL d t=(d,false):=by rw[dL,if_neg (by rw[hd0,ht0,hL];first|(simp;omega)|(simp at c5 ⊢;omega))]
      refine⟨nJ _ (by omega),?_,?_,trivial⟩<;>(first|(rw[hbad]<;>rfl)|(rw[hok,hL]<;>rfl))
     ·have hok:dL d t=(⟨fD t d.tables⟩,true):=by rw[dL,if_pos (by rw[hd0,ht0,hL];first|(simp;omega)|(simp at c5 ⊢;omega))]
      apply et2<;>(first|(rw[hbad]<;>rfl)|(rw[hok,hL]<;>rfl))
    ·have hL:fD t d.tables=out:=by rw[<-hdn,c4];simp
     refine⟨aAK _,dd (fun c5=>?_) fun c5=>?_⟩
     ·have hbad:dL d t=(d,false):=by rw[dL,if_neg (by rw[hd0,ht0,hL];first|(simp;omega)|(simp at c5 ⊢;omega))]
      refine⟨nJ _ (by omega),?_,?_,trivial⟩<;>(first|(rw[hbad]<;>rfl)|(rw[hok,hL]<;>rfl))
     ·have hok:dL d t=(⟨fD t d.tables⟩,true):=by rw[dL,if_pos (by rw[hd0,ht0,hL];first|(simp;omega)|(simp at c5 ⊢;omega))]
      apply et2<;>(first|(rw[hbad]<;>rfl)|(rw[hok,hL]<;>rfl))
abbrev pY (d:aI)(t:aJ):AV × List (Nat × Rs):=(.tup [.agg [.own 0],vB ((dL d t).2)],[(0,.arr 88 3 true ((dL d t).1.tables.map aB))])
abbrev vM (d:aI)(t:aJ):Prop:=Cn 97 [.agg [.sl 88 3 (d.tables.map aB)],.agg [.str t.name,.int .i64 t.arity,.sl 34 1 (t.rows.map aE)]] (pY d t).1 (pY d t).2
theorem aEb (d:aI)(t:aJ)(hc:aT d<=1048576):vM d t:=by
 refine cq Tryz.func97 (.call (vB (dT d)) []<| .br (bC (fI d)<| .fin [(0,2100)]) (.call (vB (aP t)) []<| .lit<| .lit<| .br (bC (fI d)<| .fin [(0,2100)]) (.loop (Nat × (List aJ) × Bool) (Q3 Nat (List aJ) Bool) ([7,8,9,10]++rg 23 49) [600,900,1000,4400,4800,4900,6500,6900,7000,9000] (fun yy0=>[(8,vI (yy0.1:Int)),(7,vB yy0.2.2)]) (fun yy0=>[(600,some (.box 26 [.own 9000])),(9000,some (.arr 88 3 true (yy0.2.1.map aB)))]) (fun yy0=>yy0.1<=d.tables.length/\yy0.2.1.length<=2*yy0.1/\yy0.2.1++qP t yy0.2.2 (d.tables.drop yy0.1)=fD t d.tables) (fun yy0=>d.tables.length - yy0.1) (fun yy0=> .len d.tables.length<| .br (.br (.elem _ aB d.tables (fun e36=> .lit<| .lit<| .lit<| .lit<| .lit<| .lit<| .br (bC (gA t)<| .appx aJ aB yy0.2.1 t<| .elem _ aB d.tables (fun e54=> .br (.elem _ aB d.tables (fun e63=>bC (gA e63)<| .appx aJ aB (yy0.2.1++[t]) e63<| .back [(600,600),(9000,7000)])) (.back [(600,600),(9000,4900)]))) (.elem _ aB d.tables (fun e54=> .br (.elem _ aB d.tables (fun e63=>bC (gA e63)<| .appx aJ aB yy0.2.1 e63<| .back [(600,600),(9000,7000)])) (.back [(600,600),(9000,9000)]))))) (.elem _ aB d.tables (fun e54=> .br (.elem _ aB d.tables (fun e63=>bC (gA e63)<| .appx aJ aB yy0.2.1 e63<| .back [(600,600),(9000,7000)])) (.back [(600,600),(9000,9000)])))) (.br (bC (gA t)<| .appx aJ aB yy0.2.1 t<| .call (vB (dT (⟨yy0.2.1++[t]⟩:aI))) []<| .br (bC (fI d)<| .fin [(0,8600)]) (.fin [(0,8000)])) (.call (vB (dT (⟨yy0.2.1⟩:aI))) []<| .br (bC (fI d)<| .fin [(0,8600)]) (.fin [(0,9000)]))))))) (p:=Lx (d.tables.map aB)<| Lx (t.rows.map aE)<| oG d/\Nr (dT d) (gD d/\(false)=((dL d t).2)/\d.tables.map aB=(dL d t).1.tables.map aB/\True) (kK t/\Nr (aP t) (gD d/\(false)=((dL d t).2)/\d.tables.map aB=(dL d t).1.tables.map aB/\True) ((∃(k:Nat) (out:List aJ) (p:Bool),0=(k:Int)/\(false)=p/\[]=out.map aB/\k<=d.tables.length/\out.length<=2*k/\out++qP t p (d.tables.drop k)=fD t d.tables)/\ ∀(k:Nat) (out:List aJ) (p:Bool),(k<=d.tables.length/\out.length<=2*k/\out++qP t p (d.tables.drop k)=fD t d.tables)->Lm aB d.tables/\Br ((k:Int)<(d.tables.length:Int)) (Nr (p) (0<=(k:Int)/\Em aB d.tables k fun e36=>Nr (Op.bytesLess e36.name.toList t.name.toList) (gX t/\out.map aB=out.map aB/\t.name=t.name/\t.arity=t.arity/\t.rows.map aE=t.rows.map aE/\(out.length+1)*48<=140737488355328/\0<=(k:Int)/\Em aB d.tables k fun e54=>Nr (e54.name.toList==t.name.toList) (0<=(k:Int)/\Em aB d.tables k fun e63=>gX e63/\(out++[t]).map aB=(out++[t]).map aB/\e63.name=e63.name/\e63.arity=e63.arity/\e63.rows.map aE=e63.rows.map aE/\((out++[t]).length+1)*48<=140737488355328/\cW ((k:Int)+1)/\ ∃(k' :Nat) (out' :List aJ) (p' :Bool),((k:Int)+1)=(k' :Int)/\(true)=p' /\((out++[t])++[e63]).map aB=out'.map aB/\(k' <=d.tables.length/\out'.length<=2*k' /\out' ++qP t p' (d.tables.drop k')=fD t d.tables)/\d.tables.length - k' <d.tables.length - k) (cW ((k:Int)+1)/\ ∃(k' :Nat) (out' :List aJ) (p' :Bool),((k:Int)+1)=(k' :Int)/\(true)=p' /\(out++[t]).map aB=out'.map aB/\(k' <=d.tables.length/\out'.length<=2*k' /\out' ++qP t p' (d.tables.drop k')=fD t d.tables)/\d.tables.length - k' <d.tables.length - k)) (0<=(k:Int)/\Em aB d.tables k fun e54=>Nr (e54.name.toList==t.name.toList) (0<=(k:Int)/\Em aB d.tables k fun e63=>gX e63/\out.map aB=out.map aB/\e63.name=e63.name/\e63.arity=e63.arity/\e63.rows.map aE=e63.rows.map aE/\(out.length+1)*48<=140737488355328/\cW ((k:Int)+1)/\ ∃(k' :Nat) (out' :List aJ) (p' :Bool),((k:Int)+1)=(k' :Int)/\(p)=p' /\(out++[e63]).map aB=out'.map aB/\(k' <=d.tables.length/\out'.length<=2*k' /\out' ++qP t p' (d.tables.drop k')=fD t d.tables)/\d.tables.length - k' <d.tables.length - k) (cW ((k:Int)+1)/\ ∃(k' :Nat) (out' :List aJ) (p' :Bool),((k:Int)+1)=(k' :Int)/\(p)=p' /\out.map aB=out'.map aB/\(k' <=d.tables.length/\out'.length<=2*k' /\out' ++qP t p' (d.tables.drop k')=fD t d.tables)/\d.tables.length - k' <d.tables.length - k))) (0<=(k:Int)/\Em aB d.tables k fun e54=>Nr (e54.name.toList==t.name.toList) (0<=(k:Int)/\Em aB d.tables k fun e63=>gX e63/\out.map aB=out.map aB/\e63.name=e63.name/\e63.arity=e63.arity/\e63.rows.map aE=e63.rows.map aE/\(out.length+1)*48<=140737488355328/\cW ((k:Int)+1)/\ ∃(k' :Nat) (out' :List aJ) (p' :Bool),((k:Int)+1)=(k' :Int)/\(p)=p' /\(out++[e63]).map aB=out'.map aB/\(k' <=d.tables.length/\out'.length<=2*k' /\out' ++qP t p' (d.tables.drop k')=fD t d.tables)/\d.tables.length - k' <d.tables.length - k) (cW ((k:Int)+1)/\ ∃(k' :Nat) (out' :List aJ) (p' :Bool),((k:Int)+1)=(k' :Int)/\(p)=p' /\out.map aB=out'.map aB/\(k' <=d.tables.length/\out'.length<=2*k' /\out' ++qP t p' (d.tables.drop k')=fD t d.tables)/\d.tables.length - k' <d.tables.length - k))) (Nr (p) (gX t/\out.map aB=out.map aB/\t.name=t.name/\t.arity=t.arity/\t.rows.map aE=t.rows.map aE/\(out.length+1)*48<=140737488355328/\oG (⟨out++[t]⟩:aI)/\Nr (dT (⟨out++[t]⟩:aI)) (gD d/\(false)=((dL d t).2)/\d.tables.map aB=(dL d t).1.tables.map aB/\True) ((true)=((dL d t).2)/\(out++[t]).map aB=(dL d t).1.tables.map aB/\True)) (oG (⟨out⟩:aI)/\Nr (dT (⟨out⟩:aI)) (gD d/\(false)=((dL d t).2)/\d.tables.map aB=(dL d t).1.tables.map aB/\True) ((true)=((dL d t).2)/\out.map aB=(dL d t).1.tables.map aB/\True)))))) (by kernel_rfl) ?_;refine lx fun n0=>lx fun n1=>?_;have q1:aT d=lD d.tables:=rfl;refine⟨zQ d,dm (fun g15=>?_) fun g15=>?_⟩
 ·have hbad:dL d t=(d,false):=by rw[dL,if_neg (by first|(rw[c0];simp;done)|(simp[*];done))]
  refine⟨kC _ (by omega),?_,?_,trivial⟩<;>(first|(rw[hbad]<;>rfl)|(rw[hok,hL]<;>rfl))
 ·refine⟨rH t,dm (fun c0=>?_) fun c0=>?_⟩
  ·have hbad:dL d t=(d,false):=by rw[dL,if_neg (by first|(rw[c0];simp;done)|(simp[*];done))]
   refine⟨kC _ (by omega),?_,?_,trivial⟩<;>(first|(rw[hbad]<;>rfl)|(rw[hok,hL]<;>rfl))
  ·have hd0:dT d=true:=by simpa using g15
   have ht0:aP t=true:=by simpa using c0
   have hts:=kB ht0;have h6:=uY hd0;refine⟨⟨0,([]:List aJ),false,rfl,rfl,rfl,aAd _,by simp,rfl⟩,fun k out p ⟨hk,hol,hv⟩=>?_⟩;refine⟨aAK _,dd (fun c1=>?_) fun c1=>?_⟩
   ·refine dm (fun g32=>?_) fun g32=>?_
    ·refine⟨by omega,rfl,by omega,fun e36 h36=>?_⟩;refine dm (fun c2=>?_) fun c2=>?_
     ·refine⟨lK _ (by omega),rfl,rfl,rfl,rfl,by first|omega|(simp;omega),by omega,rfl,by omega,fun e54 h54=>?_⟩
      try (obtain rfl:=(bA h36 h54).symm)
      have q3:=gT h54;refine dm (fun c3=>?_) fun c3=>?_
      ·refine⟨by omega,rfl,by omega,fun e63 h63=>?_⟩;obtain rfl:=(bA h54 h63).symm;refine⟨lK _ (by omega),rfl,rfl,rfl,rfl,by first|omega|(simp;omega),⟨by omega,by omega⟩,?_⟩;exact⟨k+1,_,_,rfl,rfl,rfl,⟨by omega,by first|omega|(simp;omega),by rw[<-hv,dS h54,qP];(try simp at c3);(try rw[c3] at c2);first|(simp[g32,c2,c3];done)|(simp[g32,c3];done)⟩,by omega⟩
      ·refine⟨⟨by omega,by omega⟩,?_⟩;exact⟨k+1,_,_,rfl,rfl,rfl,⟨by omega,by first|omega|(simp;omega),by rw[<-hv,dS h54,qP];(try simp at c3);(try rw[c3] at c2);first|(simp[g32,c2,c3];done)|(simp[g32,c3];done)⟩,by omega⟩
     ·refine⟨by omega,rfl,by omega,fun e54 h54=>?_⟩
      try (obtain rfl:=(bA h36 h54).symm)
      have q3:=gT h54;refine dm (fun c3=>?_) fun c3=>?_
      ·refine⟨by omega,rfl,by omega,fun e63 h63=>?_⟩;obtain rfl:=(bA h54 h63).symm;refine⟨lK _ (by omega),rfl,rfl,rfl,rfl,by first|omega|(simp;omega),⟨by omega,by omega⟩,?_⟩;exact⟨k+1,_,_,rfl,rfl,rfl,⟨by omega,by first|omega|(simp;omega),by rw[<-hv,dS h54,qP];(try simp at c3);(try rw[c3] at c2);first|(simp[g32,c2,c3];done)|(simp[g32,c3];done)⟩,by omega⟩
      ·refine⟨⟨by omega,by omega⟩,?_⟩;exact⟨k+1,_,_,rfl,rfl,rfl,⟨by omega,by first|omega|(simp;omega),by rw[<-hv,dS h54,qP];(try simp at c3);(try rw[c3] at c2);first|(simp[g32,c2,c3];done)|(simp[g32,c3];done)⟩,by omega⟩
    ·refine⟨by omega,rfl,by omega,fun e54 h54=>?_⟩
     try (obtain rfl:=(bA h36 h54).symm)
     have q3:=gT h54;refine dm (fun c3=>?_) fun c3=>?_
     ·refine⟨by omega,rfl,by omega,fun e63 h63=>?_⟩;obtain rfl:=(bA h54 h63).symm;refine⟨lK _ (by omega),rfl,rfl,rfl,rfl,by first|omega|(simp;omega),⟨by omega,by omega⟩,?_⟩;exact⟨k+1,_,_,rfl,rfl,rfl,⟨by omega,by first|omega|(simp;omega),by rw[<-hv,dS h54,qP];(try simp at c3);(try rw[c3] at c2);first|(simp[g32,c2,c3];done)|(simp[g32,c3];done)⟩,by omega⟩
     ·refine⟨⟨by omega,by omega⟩,?_⟩;exact⟨k+1,_,_,rfl,rfl,rfl,⟨by omega,by first|omega|(simp;omega),by rw[<-hv,dS h54,qP];(try simp at c3);(try rw[c3] at c2);first|(simp[g32,c2,c3];done)|(simp[g32,c3];done)⟩,by omega⟩
   ·have hdn:out++(if p=true then [] else [t])=fD t d.tables:=by rw[<-hv,oW (by omega),qP]
    refine dm (fun c4=>?_) fun c4=>?_
    ·have hL:fD t d.tables=out++[t]:=by rw[<-hdn,c4];rfl
     refine⟨lK _ (by omega),rfl,rfl,rfl,rfl,by first|omega|(simp;omega),zQ (⟨out++[t]⟩:aI),dm (fun c5=>?_) fun c5=>?_⟩
     ·have hbad:dL d t=(d,false):=by rw[dL,if_neg (by rw[hd0,ht0,<-vC hd0 ht0,hL,c5];decide)]
      refine⟨kC _ (by omega),?_,?_,trivial⟩<;>(first|(rw[hbad]<;>rfl)|(rw[hok,hL]<;>rfl))
     ·have hok:dL d t=(⟨fD t d.tables⟩,true):=by rw[dL,if_pos (by rw[hd0,ht0,<-vC hd0 ht0,hL,c5];rfl)]
      apply et2<;>(first|(rw[hbad]<;>rfl)|(rw[hok,hL]<;>rfl))
    ·have hL:fD t d.tables=out:=by rw[<-hdn,c4];simp
     refine⟨zQ (⟨out⟩:aI),dm (fun c5=>?_) fun c5=>?_⟩
     ·have hbad:dL d t=(d,false):=by rw[dL,if_neg (by rw[hd0,ht0,<-vC hd0 ht0,hL,c5];decide)]
      refine⟨kC _ (by omega),?_,?_,trivial⟩<;>(first|(rw[hbad]<;>rfl)|(rw[hok,hL]<;>rfl))
     ·have hok:dL d t=(⟨fD t d.tables⟩,true):=by rw[dL,if_pos (by rw[hd0,ht0,<-vC hd0 ht0,hL,c5];rfl)]
      apply et2<;>(first|(rw[hbad]<;>rfl)|(rw[hok,hL]<;>rfl))
end Go.Proofs.YtafmaholhcgakaaGreat
