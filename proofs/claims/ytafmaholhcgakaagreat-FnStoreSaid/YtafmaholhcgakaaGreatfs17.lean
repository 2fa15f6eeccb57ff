/-
  Contracts and plain laws, joined: part 18.
-/
import Derived.Test.YtafmaholhcgakaaGreatfs16
import Derived.Test.YtafmaholhcgakaaGreatfs11
import Derived.Test.YtafmaholhcgakaaGreatfs4
namespace Go.Proofs.YtafmaholhcgakaaGreat
open Go.ChangeShapes Go.WideShapes Go.ChangeAt Go.RowKit
set_option linter.unusedVariables false
set_option linter.unusedSimpArgs false
set_option maxRecDepth 100000
set_option maxHeartbeats 4000000
theorem yJ {s:bE}{u:bG}(h:(aU s u).2=false):(aU s u).1=s:=by
 cases e:dO s u with
 | false=>rw[gQ e]
 | true=>rw[fH e] at h;cases h
theorem yK {d:aI}{n:ByteArray}(h:(aH d n).2=true):n.size=1:=by
 unfold aH at h;split at h
 ·rename_i hd;cases e:d.tables.find? (xW n) with
  | none=>rw[e] at h;cases h
  | some t=>
    have h1:=List.find?_some e;have h2:=sJ (aDT.1 (zU hd) t (List.mem_of_find?_eq_some e))
    have h3:t.name=n:=by
     unfold xW at h1;simpa [cZ] using h1
    rw[<-h3];exact h2
 cases h
theorem aHx {d:aI}{l:List aN}{m:List aO}(h:dN d l m=true):bF l<=100/\bV m<=100:=by
 simp only[dN,aAO,aKQ] at h;obtain⟨h1,h2,h3,h4⟩:=h
 have q1:=pD (c:=dM) (m:=4) (l:=l) fun f hf=>by
  have:=aDT.1 h1 f hf;simp only[gB,fN,aAO] at this;have a1:=yK this.1.1;have a2:=bI (iM this.1.1).1;have a3:=zM this.1.2.1 (by omega);have e:dM f=f.name.size+fL f.src:=rfl;have e2:fL f.src=f.src.length:=rfl;omega
 have q2:=pD (c:=fW) (m:=2) (l:=m) fun f hf=>by
  have:=aDT.1 h2 f hf;simp only[gC,eY,aAO] at this;have a1:=yK this.1.1;have a2:=yK this.1.2.1;have e:fW f=f.name.size+f.into.size:=rfl;omega
 have e1:bF l=kF dM l:=rfl;have e2:bV m=kF fW m:=rfl;omega
def lU (p:bE × Int)(u:bG):bE × Int:=((aU p.1 u).1,if (aU p.1 u).2=true then p.2+1 else p.2)
def dG (s:bE)(l:List bG):bE × Int:=l.foldl lU (s,0)
theorem wM {s:bE}{l:List bG}{k:Nat}{u:bG}(h:l[k]? =some u):dG s (l.take (k+1))=lU (dG s (l.take k)) u:=by
 rw[dG,cC h,List.foldl_append];rfl
theorem aGx (s:bE)(u:bG):(aU s u).1=s\/dE (aU s u).1<=25000:=by
 cases h:dO s u with
 | false=>left;rw[gQ h]
 | true=>
   right;rw[fH h];simp only[dO,aAO] at h;have h1:=(mM h.2.2.1).1;have h2:=oH (cJ s.database u).1 (s.catalogue.version+1);have h3:=aHx h.2.2.2;show aT (cJ s.database u).1+cI (bO (cJ s.database u).1 (s.catalogue.version+1)).1+bF s.dependencies+bV s.inclusions<=25000;omega
theorem aDO (s:bE)(l:List bG):(dG s l).1=s\/dE (dG s l).1<=25000:=by
 have key: ∀(l:List bG) (p:bE × Int),(p.1=s\/dE p.1<=25000)->((l.foldl lU p).1=s\/dE (l.foldl lU p).1<=25000):=by
  intro l
  induction l with
  | nil=>intro p h;exact h
  | cons u l ih=>
    intro p h;rw[List.foldl_cons];refine ih _ ?_;show (aU p.1 u).1=s\/dE (aU p.1 u).1<=25000;rcases aGx p.1 u with q | q
    ·rw[q];exact h
    exact .inr q
 exact key l (s,0) (.inl rfl)
theorem aEg {s x:bE}{l:List bG}{n:Int}(hc:dE s<=1048576)(h:dG s l=(x,n)):dE x<=1048576:=by
 rcases aDO s l with q | q
 ·rw[h] at q;rw[show x=s from q];exact hc
 rw[h] at q;have:dE x<=25000:=q;omega
theorem aDP (s:bE): ∀(l:List bG) (p:bE × Int),0<=p.2->0<=(l.foldl lU p).2/\(l.foldl lU p).2<=p.2+(l.length:Int)
 | [],p,h=>by simpa using h
 | u::l,p,h=>by
   have e:(lU p u).2=p.2+1\/(lU p u).2=p.2:=by
    show (if (aU p.1 u).2=true then p.2+1 else p.2)=p.2+1\/(if (aU p.1 u).2=true then p.2+1 else p.2)=p.2;split
    ·exact .inl rfl
    exact .inr rfl
   have:=aDP s l (lU p u) (by omega);rw[List.foldl_cons,aIl];omega
theorem aDQ {s x:bE}{l:List bG}{n:Int}(h:dG s l=(x,n)):0<=n/\n<=(l.length:Int):=by
 have:=aDP s l (s,0) (Int.le_refl _);rw[show l.foldl lU (s,0)=(x,n) from h] at this;simpa using this
theorem aAj {x:bE}{u:bG}{n:Int}(h:(aU x u).2=true):lU (x,n) u=((aU x u).1,n+1):=by rw[lU,if_pos h]
theorem aDR {x:bE}{u:bG}{n:Int}(h:(aU x u).2=false):lU (x,n) u=((aU x u).1,n):=by rw[lU,if_neg (by rw[h];decide)]
abbrev qC (s:bE)(l:List bG):AV × List (Nat × Rs):=(.tup [.agg [.own 0,vI ((dG s l).1.catalogue.version),.own 1,.own 2,.own 3],vI ((dG s l).2)],[(0,.arr 88 3 true ((dG s l).1.database.tables.map aB)),(1,.arr 91 4 true ((dG s l).1.catalogue.tables.map aC)),(2,.arr 77 3 true ((dG s l).1.dependencies.map aD)),(3,.arr 81 4 true ((dG s l).1.inclusions.map aG))])
abbrev vQ (s:bE)(l:List bG):Prop:=Cn 15 [.agg [.sl 88 3 (s.database.tables.map aB),.int .i64 s.catalogue.version,.sl 91 4 (s.catalogue.tables.map aC),.sl 77 3 (s.dependencies.map aD),.sl 81 4 (s.inclusions.map aG)],.one (.sl 36 3 (l.map eA))] (qC s l).1 (qC s l).2
theorem aEh (s:bE)(l:List bG)(hc:dE s<=1048576)(hu:jZ l<=1048576):vQ s l:=by
 refine cq Tryz.func15 (bC (pW s)<| .len l.length<| .loop (Nat × bE × Int) (Q3 Nat bE Int) ([7,9,10,11,13]++rg 16 15) [600,900,1000,1300,1301,1302,1303,2300,2301,2302,2303] (fun yy0=>[(16,vI (yy0.1:Int)),(7,vI yy0.2.2)]) (fun yy0=>[(600,some (.box 33 [.own 1300,vI yy0.2.1.catalogue.version,.own 1301,.own 1302,.own 1303])),(1300,some (.arr 88 3 true (yy0.2.1.database.tables.map aB))),(1301,some (.arr 91 4 true (yy0.2.1.catalogue.tables.map aC))),(1302,some (.arr 77 3 true (yy0.2.1.dependencies.map aD))),(1303,some (.arr 81 4 true (yy0.2.1.inclusions.map aG)))]) (fun yy0=>yy0.1<=l.length/\dG s (l.take yy0.1)=(yy0.2.1,yy0.2.2)) (fun yy0=>l.length - yy0.1) (fun yy0=> .br (.elem _ eA l (fun e18=>bC (nY yy0.2.1 e18)<| .br (.back [(600,600),(1300,2300),(1301,2301),(1302,2302),(1303,2303)]) (.back [(600,600),(1300,1300),(1301,1301),(1302,1302),(1303,1303)]))) (.fin [(0,1300),(1,1301),(2,1302),(3,1303)]))) (p:=Lx (s.database.tables.map aB)<| Lx (s.catalogue.tables.map aC)<| Lx (s.dependencies.map aD)<| Lx (s.inclusions.map aG)<| Lx (l.map eA)<| vK s/\(Lm eA l/\((∃(k:Nat) (x:bE) (n:Int),0=(k:Int)/\0=n/\s.catalogue.version=x.catalogue.version/\s.database.tables.map aB=x.database.tables.map aB/\s.catalogue.tables.map aC=x.catalogue.tables.map aC/\s.dependencies.map aD=x.dependencies.map aD/\s.inclusions.map aG=x.inclusions.map aG/\k<=l.length/\dG s (l.take k)=(x,n))/\ ∀(k:Nat) (x:bE) (n:Int),(k<=l.length/\dG s (l.take k)=(x,n))->Br ((k:Int)<(l.length:Int)) (0<=(k:Int)/\Em eA l k fun e18=>sT x e18/\Bb ((aU x e18).2) (cW (n+1)/\cW ((k:Int)+1)/\ ∃(k' :Nat) (x' :bE) (n' :Int),((k:Int)+1)=(k' :Int)/\(n+1)=n' /\((aU x e18).1.catalogue.version)=x'.catalogue.version/\(aU x e18).1.database.tables.map aB=x'.database.tables.map aB/\(aU x e18).1.catalogue.tables.map aC=x'.catalogue.tables.map aC/\(aU x e18).1.dependencies.map aD=x'.dependencies.map aD/\(aU x e18).1.inclusions.map aG=x'.inclusions.map aG/\(k' <=l.length/\dG s (l.take k')=(x',n'))/\l.length - k' <l.length - k) (cW ((k:Int)+1)/\ ∃(k' :Nat) (x' :bE) (n' :Int),((k:Int)+1)=(k' :Int)/\n=n' /\x.catalogue.version=x'.catalogue.version/\x.database.tables.map aB=x'.database.tables.map aB/\x.catalogue.tables.map aC=x'.catalogue.tables.map aC/\x.dependencies.map aD=x'.dependencies.map aD/\x.inclusions.map aG=x'.inclusions.map aG/\(k' <=l.length/\dG s (l.take k')=(x',n'))/\l.length - k' <l.length - k)) (x.catalogue.version=((dG s l).1.catalogue.version)/\n=((dG s l).2)/\x.database.tables.map aB=(dG s l).1.database.tables.map aB/\x.catalogue.tables.map aC=(dG s l).1.catalogue.tables.map aC/\x.dependencies.map aD=(dG s l).1.dependencies.map aD/\x.inclusions.map aG=(dG s l).1.inclusions.map aG/\True)))) (by kernel_rfl) ?_;refine lx fun n0=>lx fun n1=>lx fun n2=>lx fun n3=>lx fun n4=>?_;have hS:dE s=aT s.database+cI s.catalogue+bF s.dependencies+bV s.inclusions:=rfl;have hI:=gK s.inclusions;refine⟨aE9 _ (by first|omega|(dsimp only;omega)) (by first|omega|(dsimp only;omega)) (by first|omega|(dsimp only;omega)) (by first|omega|(dsimp only;omega)),aAK _,⟨0,s,(0:Int),rfl,rfl,rfl,rfl,rfl,rfl,rfl,aAd _,rfl⟩,fun k x n ⟨hk,hx⟩=>?_⟩;have hxs:=aEg hc hx;have hxn:=aDQ hx;rw[aLz] at hxn;refine dd (fun c0=>?_) fun c0=>?_
 ·refine⟨by omega,rfl,by omega,fun e18 h18=>?_⟩;have hue:=aAs h18;refine⟨aDM _ _ (by omega) (by omega),db (fun c1=>?_) fun c1=>?_⟩
  ·have hnx:dG s (l.take (k+1))=((aU x e18).1,n+1):=by rw[wM h18,hx,aAj c1]
   refine⟨⟨by omega,by omega⟩,⟨by omega,by omega⟩,?_⟩;exact⟨k+1,(aU x e18).1,_,rfl,rfl,rfl,rfl,rfl,rfl,rfl,⟨by omega,hnx⟩,by omega⟩
  ·have hnx:dG s (l.take (k+1))=((aU x e18).1,n):=by rw[wM h18,hx,aDR c1]
   rw[yJ c1] at hnx;refine⟨⟨by omega,by omega⟩,?_⟩;exact⟨k+1,x,_,rfl,rfl,rfl,rfl,rfl,rfl,rfl,⟨by omega,hnx⟩,by omega⟩
 ·apply et6<;>((rw[aCv (by omega)] at hx;rw[hx]))
abbrev qD (s:bE)(l:List bG):AV × List (Nat × Rs):=(.tup [.agg [.own 0,vI ((dG s l).1.catalogue.version),.own 1,.own 2,.own 3],vI ((dG s l).2)],[(0,.arr 88 3 true ((dG s l).1.database.tables.map aB)),(1,.arr 91 4 true ((dG s l).1.catalogue.tables.map aC)),(2,.arr 77 3 true ((dG s l).1.dependencies.map aD)),(3,.arr 81 4 true ((dG s l).1.inclusions.map aG))])
abbrev vR (s:bE)(l:List bG):Prop:=Cn 16 [.agg [.sl 88 3 (s.database.tables.map aB),.int .i64 s.catalogue.version,.sl 91 4 (s.catalogue.tables.map aC),.sl 77 3 (s.dependencies.map aD),.sl 81 4 (s.inclusions.map aG)],.one (.sl 36 3 (l.map eA))] (qD s l).1 (qD s l).2
theorem aEi (s:bE)(l:List bG)(hc:dE s<=1048576)(hu:jZ l<=1048576):vR s l:=by
 refine cq Tryz.func16 (bC (jF s)<| .loop (Nat × bE × Int) (Q3 Nat bE Int) ([7,8,9,10]++rg 12 20) [600,900,1200,1201,1202,1203,2500,2501,2502,2503] (fun yy0=>[(8,vI (yy0.1:Int)),(7,vI yy0.2.2)]) (fun yy0=>[(600,some (.box 33 [.own 1200,vI yy0.2.1.catalogue.version,.own 1201,.own 1202,.own 1203])),(1200,some (.arr 88 3 true (yy0.2.1.database.tables.map aB))),(1201,some (.arr 91 4 true (yy0.2.1.catalogue.tables.map aC))),(1202,some (.arr 77 3 true (yy0.2.1.dependencies.map aD))),(1203,some (.arr 81 4 true (yy0.2.1.inclusions.map aG)))]) (fun yy0=>yy0.1<=l.length/\dG s (l.take yy0.1)=(yy0.2.1,yy0.2.2)) (fun yy0=>l.length - yy0.1) (fun yy0=> .len l.length<| .br (.elem _ eA l (fun e23=>bC (nZ yy0.2.1 e23)<| .br (.back [(600,600),(1200,2500),(1201,2501),(1202,2502),(1203,2503)]) (.back [(600,600),(1200,2500),(1201,2501),(1202,2502),(1203,2503)]))) (.fin [(0,1200),(1,1201),(2,1202),(3,1203)]))) (p:=Lx (s.database.tables.map aB)<| Lx (s.catalogue.tables.map aC)<| Lx (s.dependencies.map aD)<| Lx (s.inclusions.map aG)<| Lx (l.map eA)<| kX s/\((∃(k:Nat) (x:bE) (n:Int),0=(k:Int)/\0=n/\s.catalogue.version=x.catalogue.version/\s.database.tables.map aB=x.database.tables.map aB/\s.catalogue.tables.map aC=x.catalogue.tables.map aC/\s.dependencies.map aD=x.dependencies.map aD/\s.inclusions.map aG=x.inclusions.map aG/\k<=l.length/\dG s (l.take k)=(x,n))/\ ∀(k:Nat) (x:bE) (n:Int),(k<=l.length/\dG s (l.take k)=(x,n))->Lm eA l/\Br ((k:Int)<(l.length:Int)) (0<=(k:Int)/\Em eA l k fun e23=>sU x e23/\Bb ((aU x e23).2) (cW (n+1)/\cW ((k:Int)+1)/\ ∃(k' :Nat) (x' :bE) (n' :Int),((k:Int)+1)=(k' :Int)/\(n+1)=n' /\((aU x e23).1.catalogue.version)=x'.catalogue.version/\(aU x e23).1.database.tables.map aB=x'.database.tables.map aB/\(aU x e23).1.catalogue.tables.map aC=x'.catalogue.tables.map aC/\(aU x e23).1.dependencies.map aD=x'.dependencies.map aD/\(aU x e23).1.inclusions.map aG=x'.inclusions.map aG/\(k' <=l.length/\dG s (l.take k')=(x',n'))/\l.length - k' <l.length - k) (cW ((k:Int)+1)/\ ∃(k' :Nat) (x' :bE) (n' :Int),((k:Int)+1)=(k' :Int)/\n=n' /\((aU x e23).1.catalogue.version)=x'.catalogue.version/\(aU x e23).1.database.tables.map aB=x'.database.tables.map aB/\(aU x e23).1.catalogue.tables.map aC=x'.catalogue.tables.map aC/\(aU x e23).1.dependencies.map aD=x'.dependencies.map aD/\(aU x e23).1.inclusions.map aG=x'.inclusions.map aG/\(k' <=l.length/\dG s (l.take k')=(x',n'))/\l.length - k' <l.length - k)) (x.catalogue.version=((dG s l).1.catalogue.version)/\n=((dG s l).2)/\x.database.tables.map aB=(dG s l).1.database.tables.map aB/\x.catalogue.tables.map aC=(dG s l).1.catalogue.tables.map aC/\x.dependencies.map aD=(dG s l).1.dependencies.map aD/\x.inclusions.map aG=(dG s l).1.inclusions.map aG/\True))) (by kernel_rfl) ?_;refine lx fun n0=>lx fun n1=>lx fun n2=>lx fun n3=>lx fun n4=>?_;have hS:dE s=aT s.database+cI s.catalogue+bF s.dependencies+bV s.inclusions:=rfl;have hI:=gK s.inclusions;refine⟨rO _ (by first|omega|(dsimp only;omega)) (by first|omega|(dsimp only;omega)) (by first|omega|(dsimp only;omega)) (by first|omega|(dsimp only;omega)),⟨0,s,(0:Int),rfl,rfl,rfl,rfl,rfl,rfl,rfl,aAd _,rfl⟩,fun k x n ⟨hk,hx⟩=>?_⟩;have hxs:=aEg hc hx;have hxn:=aDQ hx;rw[aLz] at hxn;refine⟨aAK _,dd (fun c0=>?_) fun c0=>?_⟩
 ·refine⟨by omega,rfl,by omega,fun e23 h23=>?_⟩;have hue:=aAs h23;refine⟨aDN _ _ (by omega) (by omega),db (fun c1=>?_) fun c1=>?_⟩
  ·have hnx:dG s (l.take (k+1))=((aU x e23).1,n+1):=by rw[wM h23,hx,aAj c1]
   refine⟨⟨by omega,by omega⟩,⟨by omega,by omega⟩,?_⟩;exact⟨k+1,(aU x e23).1,_,rfl,rfl,rfl,rfl,rfl,rfl,rfl,⟨by omega,hnx⟩,by omega⟩
  ·have hnx:dG s (l.take (k+1))=((aU x e23).1,n):=by rw[wM h23,hx,aDR c1]
   refine⟨⟨by omega,by omega⟩,?_⟩;exact⟨k+1,(aU x e23).1,_,rfl,rfl,rfl,rfl,rfl,rfl,rfl,⟨by omega,hnx⟩,by omega⟩
 ·apply et6<;>((rw[aCv (by omega)] at hx;rw[hx]))
theorem aJz {d:aI}{v:Int}(h:(dT d&&gZ v 1 999)=true):(bO d v).1.version=v/\(bO d v).2=true:=by rw[mG h];exact⟨rfl,rfl⟩
theorem aGy {s:bE}{u:bG}(h:(aU s u).2=true):bU (aU s u).1=true/\(aU s u).1.catalogue.version=s.catalogue.version+1/\1<=s.catalogue.version/\s.catalogue.version<=998:=by
 cases e:dO s u with
 | false=>rw[gQ e] at h;cases h
 | true=>
   rw[fH e];simp only[dO,aAO] at e;obtain⟨h1,h2,h3,h4⟩:=e;have hv:=rS h1;have hd:=(mM h3).2;have hn: ¬s.catalogue.version=999:=by simpa using h2
   have hc:(dT (cJ s.database u).1&&gZ (s.catalogue.version+1) 1 999)=true:=by rw[hd,Bool.true_and];exact aHF (by omega) (by omega)
   obtain⟨q1,q2⟩:=aJz hc;refine⟨?_,q1,by omega,by omega⟩;show ((bO (cJ s.database u).1 (bO (cJ s.database u).1 (s.catalogue.version+1)).1.version).2&&(decide ((bO (cJ s.database u).1 (bO (cJ s.database u).1 (s.catalogue.version+1)).1.version).1=(bO (cJ s.database u).1 (s.catalogue.version+1)).1)&&dN (cJ s.database u).1 s.dependencies s.inclusions))=true;rw[q1,q2,h4];simp
theorem aGz {s:bE}(hs:bU s=true)(l:List bG):(dG s l).1.catalogue.version=s.catalogue.version+(dG s l).2:=by
 have key: ∀(l:List bG) (p:bE × Int),bU p.1=true/\p.1.catalogue.version=s.catalogue.version+p.2->(l.foldl lU p).1.catalogue.version=s.catalogue.version+(l.foldl lU p).2:=by
  intro l
  induction l with
  | nil=>intro p h;exact h.2
  | cons u l ih=>
    intro p h;rw[List.foldl_cons];refine ih _ ?_;cases e:(aU p.1 u).2 with
    | true=>
      have q:=aGy e;rw[show lU p u=((aU p.1 u).1,p.2+1) from aAj e];exact⟨q.1,by show (aU p.1 u).1.catalogue.version=s.catalogue.version+(p.2+1);omega⟩
    | false=>
      rw[show lU p u=((aU p.1 u).1,p.2) from aDR e,yJ e];exact h
 exact key l (s,0) ⟨hs,by simp⟩
theorem aPq (l:List Int):(nX l).xs.length<=5:=by
 have h:=(aFW (l:=l) (u:=(cB l).2) (most:=5) (aEf l).2 (lsN l (cB l).2 5).1.toNat).2.1;have hb:=cP l (cB l).2 (n:=5+1) (by omega);have e:nX l=jG l (cB l).2 (cB l).1.database 5 (lsN l (cB l).2 5).1.toNat:=rfl;have e2:(lsN l (cB l).2 5).1=(aA l (cB l).2 (5+1)).1:=rfl;rw[e];omega
theorem aMS {s:bE}(h:dE s<=21000)(l:List bG):dE (dG s l).1<=1048576:=by
 rcases aDO s l with q | q
 ·rw[q];omega
 omega
abbrev sV (s:bE)(v:Int):Prop:=Cn 12 [.agg [.sl 88 3 (s.database.tables.map aB),.int .i64 s.catalogue.version,.sl 91 4 (s.catalogue.tables.map aC),.sl 77 3 (s.dependencies.map aD),.sl 81 4 (s.inclusions.map aG)],.one (.int .i64 v)] (vB (bU s&&decide (s.catalogue.version=v))) []
theorem aDS (s:bE)(v:Int)(hc:dE s<=1048576):sV s v:=by
 refine cq Tryz.func12 (.br (.call (vB (bU s)) []<| .fin []) (.fin [])) (p:=Lx (s.database.tables.map aB)<| Lx (s.catalogue.tables.map aC)<| Lx (s.dependencies.map aD)<| Lx (s.inclusions.map aG)<| Br (s.catalogue.version=v) (nH s/\(bU s)=(bU s&&decide (s.catalogue.version=v))/\True) ((false)=(bU s&&decide (s.catalogue.version=v))/\True)) (by kernel_rfl) ?_;refine lx fun n0=>lx fun n1=>lx fun n2=>lx fun n3=>?_;refine dd (fun g10=>?_) fun g10=>?_
 ·refine⟨wI _ (by omega),?_,trivial⟩
  ·first|(simp[*];done)|(simp_all;done)
 ·apply et1
  ·first|(simp[*];done)|(simp_all;done)
theorem iA (a b:aJ):decide (a=b)=(decide (a.name=b.name)&&(decide (a.arity=b.arity)&&decide (a.rows=b.rows))):=by
 obtain⟨a0,a1,a2⟩:=a;obtain⟨b0,b1,b2⟩:=b;simp[Bool.and_assoc]
abbrev aAG (a:aJ)(b:aJ):Prop:=Cn 101 [.agg [.str a.name,.int .i64 a.arity,.sl 34 1 (a.rows.map aE)],.agg [.str b.name,.int .i64 b.arity,.sl 34 1 (b.rows.map aE)]] (vB (decide (a=b))) []
theorem aHy (a b:aJ):aAG a b:=by
 refine cq Tryz.func101 (.br (.lit<| .lit<| .lit<| .lit<| .lit<| .br (.call (vB (decide (a.rows=b.rows))) []<| .fin []) (.fin [])) (.fin [])) (p:=Lx (a.rows.map aE)<| Lx (b.rows.map aE)<| Bb (a.name.toList==b.name.toList) (Br (a.arity=b.arity) (qM a.rows b.rows/\(decide (a.rows=b.rows))=(decide (a=b))/\True) ((false)=(decide (a=b))/\True)) ((false)=(decide (a=b))/\True)) (by kernel_rfl) ?_;refine lx fun n0=>lx fun n1=>?_;refine db (fun g10=>?_) fun g10=>?_
 ·refine dd (fun g17=>?_) fun g17=>?_
  ·refine⟨aAv _ _,?_,trivial⟩
   ·first|(rw[iA];done)|(rw[iA];simp_all [cZ];done)
  ·apply et1
   ·first|(rw[iA];done)|(rw[iA];simp_all [cZ];done)
 ·apply et1
  ·first|(rw[iA];done)|(rw[iA];simp_all [cZ];done)
abbrev aAH (l:List aJ)(m:List aJ):Prop:=Cn 100 [.one (.sl 88 3 (l.map aB)),.one (.sl 88 3 (m.map aB)),.fn 101 []] (vB (decide (l=m))) []
theorem aHz (l m:List aJ):aAH l m:=by
 refine cq Tryz.func100 (.len l.length<| .len m.length<| .br (.fin []) (.len l.length<| .loop Nat (Q1 Nat) ([7,8,9]++rg 17 15) [800,900] (fun k=>[(17,vI (k:Int))]) (fun k=>[]) (fun k=>k<=l.length/\l.take k=m.take k) (fun k=>l.length - k) (fun k=> .br (.elem _ aB l (fun e20=> .elem _ aB m (fun e24=> .call (vB (decide (e20=e24))) []<| .br (.fin []) (.back [])))) (.fin [])))) (p:=Lx (l.map aB)<| Lx (m.map aB)<| Lm aB l/\(Lm aB m/\Nb ((l.length:Int)=(m.length:Int)) ((false)=(decide (l=m))/\True) (Lm aB l/\((∃(k:Nat),0=(k:Int)/\k<=l.length/\l.take k=m.take k)/\ ∀(k:Nat),(k<=l.length/\l.take k=m.take k)->Br ((k:Int)<(l.length:Int)) (0<=(k:Int)/\Em aB l k fun e20=>0<=(k:Int)/\Em aB m k fun e24=>aAG e20 e24/\Nb (e20=e24) ((false)=(decide (l=m))/\True) (cW ((k:Int)+1)/\ ∃(k' :Nat),((k:Int)+1)=(k' :Int)/\(k' <=l.length/\l.take k' =m.take k')/\l.length - k' <l.length - k)) ((true)=(decide (l=m))/\True))))) (by kernel_rfl) ?_;refine lx fun n0=>lx fun n1=>?_;refine⟨aAK _,aAK _,dn (fun c0=>?_) fun c0=>?_⟩
 ·apply et1
  ·first|(simp[rF hx hy hxy];done)|(simp[lG c0];done)|(simp[dB (by omega) hl ht];done)
 ·have hl:l.length=m.length:=by omega
  refine⟨aAK _,⟨0,rfl,aAd _,rfl⟩,fun k ⟨hk,ht⟩=>?_⟩;refine dd (fun c1=>?_) fun c1=>?_
  ·obtain⟨x,hx⟩:=cT (l:=l) (k:=k) (by omega);obtain⟨y,hy⟩:=cT (l:=m) (k:=k) (by omega);refine⟨by omega,rfl,by omega,fun e20 h20=>?_⟩;obtain rfl:=(bA hx h20).symm;refine⟨by omega,rfl,by omega,fun e24 h24=>?_⟩;obtain rfl:=(bA hy h24).symm;refine⟨aHy _ _,dn (fun c2=>?_) fun c2=>?_⟩
   ·have hxy: ¬x=y:=by simpa using c2
    apply et1
    ·first|(simp[rF hx hy hxy];done)|(simp[lG c0];done)|(simp[dB (by omega) hl ht];done)
   ·have hxy:x=y:=by simpa using c2
    refine⟨⟨by omega,by omega⟩,?_⟩;exact⟨k+1,rfl,⟨by omega,eW hx (by rw[hy,hxy]) ht⟩,by omega⟩
  ·apply et1
   ·first|(simp[rF hx hy hxy];done)|(simp[lG c0];done)|(simp[dB (by omega) hl ht];done)
theorem lL (a b:aI):decide (a=b)=decide (a.tables=b.tables):=by
 obtain⟨a0⟩:=a;obtain⟨b0⟩:=b;simp[Bool.and_assoc]
abbrev aBS (a:aI)(b:aI):Prop:=Cn 41 [.agg [.sl 88 3 (a.tables.map aB)],.agg [.sl 88 3 (b.tables.map aB)]] (vB (decide (a=b))) []
theorem aKA (a b:aI):aBS a b:=by
 refine cq Tryz.func41 (.call (vB (decide (a.tables=b.tables))) []<| .fin []) (p:=Lx (a.tables.map aB)<| Lx (b.tables.map aB)<| aAH a.tables b.tables/\(decide (a.tables=b.tables))=(decide (a=b))/\True) (by kernel_rfl) ?_;refine lx fun n0=>lx fun n1=>?_;refine⟨aHz _ _,?_,trivial⟩
 ·first|(rw[lL];done)|(rw[lL];simp_all [cZ];done)
theorem iB (a b:aN):decide (a=b)=(decide (a.name=b.name)&&(decide (a.src=b.src)&&decide (a.dst=b.dst))):=by
 obtain⟨a0,a1,a2⟩:=a;obtain⟨b0,b1,b2⟩:=b;simp[Bool.and_assoc]
abbrev aAI (a:aN)(b:aN):Prop:=Cn 43 [.agg [.str a.name,.sl 3 1 (a.src.map intD),.int .i64 a.dst],.agg [.str b.name,.sl 3 1 (b.src.map intD),.int .i64 b.dst]] (vB (decide (a=b))) []
theorem aIA (a b:aN):aAI a b:=by
 refine cq Tryz.func43 (.br (.call (vB (decide (a.src=b.src))) []<| .lit<| .br (.fin []) (.fin [])) (.fin [])) (p:=Lx (a.src.map intD)<| Lx (b.src.map intD)<| Bb (a.name.toList==b.name.toList) (kT a.src b.src/\Br (a.src=b.src) ((decide (a.dst=b.dst))=(decide (a=b))/\True) ((false)=(decide (a=b))/\True)) ((false)=(decide (a=b))/\True)) (by kernel_rfl) ?_;refine lx fun n0=>lx fun n1=>?_;refine db (fun g10=>?_) fun g10=>?_
 ·refine⟨sE _ _,dd (fun g17=>?_) fun g17=>?_⟩
  ·apply et1
   ·first|(rw[iB];done)|(rw[iB];simp_all [cZ];done)
  ·apply et1
   ·first|(rw[iB];done)|(rw[iB];simp_all [cZ];done)
 ·apply et1
  ·first|(rw[iB];done)|(rw[iB];simp_all [cZ];done)
abbrev qE (l:List aN)(m:List aN):Prop:=Cn 42 [.one (.sl 77 3 (l.map aD)),.one (.sl 77 3 (m.map aD)),.fn 43 []] (vB (decide (l=m))) []
theorem aB0 (l m:List aN):qE l m:=by
 refine cq Tryz.func42 (.len l.length<| .len m.length<| .br (.fin []) (.len l.length<| .loop Nat (Q1 Nat) ([7,8,9]++rg 17 15) [800,900] (fun k=>[(17,vI (k:Int))]) (fun k=>[]) (fun k=>k<=l.length/\l.take k=m.take k) (fun k=>l.length - k) (fun k=> .br (.elem _ aD l (fun e20=> .elem _ aD m (fun e24=> .call (vB (decide (e20=e24))) []<| .br (.fin []) (.back [])))) (.fin [])))) (p:=Lx (l.map aD)<| Lx (m.map aD)<| Lm aD l/\(Lm aD m/\Nb ((l.length:Int)=(m.length:Int)) ((false)=(decide (l=m))/\True) (Lm aD l/\((∃(k:Nat),0=(k:Int)/\k<=l.length/\l.take k=m.take k)/\ ∀(k:Nat),(k<=l.length/\l.take k=m.take k)->Br ((k:Int)<(l.length:Int)) (0<=(k:Int)/\Em aD l k fun e20=>0<=(k:Int)/\Em aD m k fun e24=>aAI e20 e24/\Nb (e20=e24) ((false)=(decide (l=m))/\True) (cW ((k:Int)+1)/\ ∃(k' :Nat),((k:Int)+1)=(k' :Int)/\(k' <=l.length/\l.take k' =m.take k')/\l.length - k' <l.length - k)) ((true)=(decide (l=m))/\True))))) (by kernel_rfl) ?_;refine lx fun n0=>lx fun n1=>?_;refine⟨aAK _,aAK _,dn (fun c0=>?_) fun c0=>?_⟩
 ·apply et1
  ·first|(simp[rF hx hy hxy];done)|(simp[lG c0];done)|(simp[dB (by omega) hl ht];done)
 ·have hl:l.length=m.length:=by omega
  refine⟨aAK _,⟨0,rfl,aAd _,rfl⟩,fun k ⟨hk,ht⟩=>?_⟩;refine dd (fun c1=>?_) fun c1=>?_
  ·obtain⟨x,hx⟩:=cT (l:=l) (k:=k) (by omega);obtain⟨y,hy⟩:=cT (l:=m) (k:=k) (by omega);refine⟨by omega,rfl,by omega,fun e20 h20=>?_⟩;obtain rfl:=(bA hx h20).symm;refine⟨by omega,rfl,by omega,fun e24 h24=>?_⟩;obtain rfl:=(bA hy h24).symm;refine⟨aIA _ _,dn (fun c2=>?_) fun c2=>?_⟩
   ·have hxy: ¬x=y:=by simpa using c2
    apply et1
    ·first|(simp[rF hx hy hxy];done)|(simp[lG c0];done)|(simp[dB (by omega) hl ht];done)
   ·have hxy:x=y:=by simpa using c2
    refine⟨⟨by omega,by omega⟩,?_⟩;exact⟨k+1,rfl,⟨by omega,eW hx (by rw[hy,hxy]) ht⟩,by omega⟩
  ·apply et1
   ·first|(simp[rF hx hy hxy];done)|(simp[lG c0];done)|(simp[dB (by omega) hl ht];done)
theorem aDf (a b:aO):decide (a=b)=(decide (a.name=b.name)&&(decide (a.column=b.column)&&(decide (a.into=b.into)&&decide (a.intoColumn=b.intoColumn)))):=by
 obtain⟨a0,a1,a2,a3⟩:=a;obtain⟨b0,b1,b2,b3⟩:=b;simp[Bool.and_assoc]
theorem aF7 (x y:aO):((x.name.toList==y.name.toList)&&((x.column==y.column)&&((x.into.toList==y.into.toList)&&((x.intoColumn==y.intoColumn)&&true))))=decide (x=y):=by
 rw[aDf,cZ,cZ];simp[Bool.beq_eq_decide_eq]
abbrev tD (l:List aO)(m:List aO):Prop:=Cn 44 [.one (.sl 81 4 (l.map aG)),.one (.sl 81 4 (m.map aG))] (vB (decide (l=m))) []
theorem aDg (l m:List aO):tD l m:=by
 refine cq Tryz.func44 (.len l.length<| .len m.length<| .br (.fin []) (.len l.length<| .loop Nat (Q1 Nat) ([5]++rg 13 13) [] (fun k=>[(13,vI (k:Int))]) (fun k=>[]) (fun k=>k<=l.length/\l.take k=m.take k) (fun k=>l.length - k) (fun k=> .br (.elem _ aG l (fun e18=> .elem _ aG m (fun e22=> .br (.fin []) (.back [])))) (.fin [])))) (p:=Lx (l.map aG)<| Lx (m.map aG)<| Lm aG l/\(Lm aG m/\Nb ((l.length:Int)=(m.length:Int)) ((false)=(decide (l=m))/\True) (Lm aG l/\((∃(k:Nat),0=(k:Int)/\k<=l.length/\l.take k=m.take k)/\ ∀(k:Nat),(k<=l.length/\l.take k=m.take k)->Br ((k:Int)<(l.length:Int)) (0<=(k:Int)/\Em aG l k fun e18=>0<=(k:Int)/\Em aG m k fun e22=>Nr ((e18.name.toList==e22.name.toList)&&((e18.column==e22.column)&&((e18.into.toList==e22.into.toList)&&((e18.intoColumn==e22.intoColumn)&&true)))) ((false)=(decide (l=m))/\True) (cW ((k:Int)+1)/\ ∃(k' :Nat),((k:Int)+1)=(k' :Int)/\(k' <=l.length/\l.take k' =m.take k')/\l.length - k' <l.length - k)) ((true)=(decide (l=m))/\True))))) (by kernel_rfl) ?_;refine lx fun n0=>lx fun n1=>?_;refine⟨aAK _,aAK _,dn (fun c0=>?_) fun c0=>?_⟩
 ·apply et1
  ·first|(simp[rF hx hy hxy];done)|(simp[lG c0];done)|(simp[dB (by omega) hl ht];done)
 ·have hl:l.length=m.length:=by omega
  refine⟨aAK _,⟨0,rfl,aAd _,rfl⟩,fun k ⟨hk,ht⟩=>?_⟩;refine dd (fun c1=>?_) fun c1=>?_
  ·obtain⟨x,hx⟩:=cT (l:=l) (k:=k) (by omega);obtain⟨y,hy⟩:=cT (l:=m) (k:=k) (by omega);refine⟨by omega,rfl,by omega,fun e18 h18=>?_⟩;obtain rfl:=(bA hx h18).symm;refine⟨by omega,rfl,by omega,fun e22 h22=>?_⟩;obtain rfl:=(bA hy h22).symm;refine dm (fun c2=>?_) fun c2=>?_
   ·rw[aF7] at c2;have hxy: ¬x=y:=by simpa using c2
    apply et1
    ·first|(simp[rF hx hy hxy];done)|(simp[lG c0];done)|(simp[dB (by omega) hl ht];done)
   ·rw[aF7] at c2;have hxy:x=y:=by simpa using c2
    refine⟨⟨by omega,by omega⟩,?_⟩;exact⟨k+1,rfl,⟨by omega,eW hx (by rw[hy,hxy]) ht⟩,by omega⟩
  ·apply et1
   ·first|(simp[rF hx hy hxy];done)|(simp[lG c0];done)|(simp[dB (by omega) hl ht];done)
theorem dY (a b:bE):decide (a=b)=(decide (a.database=b.database)&&(decide (a.catalogue=b.catalogue)&&(decide (a.dependencies=b.dependencies)&&decide (a.inclusions=b.inclusions)))):=by
 obtain⟨a0,a1,a2,a3⟩:=a;obtain⟨b0,b1,b2,b3⟩:=b;simp[Bool.and_assoc]
abbrev vS (a:bE)(b:bE):Prop:=Cn 9 [.agg [.sl 88 3 (a.database.tables.map aB),.int .i64 a.catalogue.version,.sl 91 4 (a.catalogue.tables.map aC),.sl 77 3 (a.dependencies.map aD),.sl 81 4 (a.inclusions.map aG)],.agg [.sl 88 3 (b.database.tables.map aB),.int .i64 b.catalogue.version,.sl 91 4 (b.catalogue.tables.map aC),.sl 77 3 (b.dependencies.map aD),.sl 81 4 (b.inclusions.map aG)]] (vB (decide (a=b))) []
theorem aF8 (a b:bE):vS a b:=by
 refine cq Tryz.func9 (.call (vB (decide (a.database=b.database))) []<| .br (.call (vB (decide (a.catalogue=b.catalogue))) []<| .lit<| .br (.call (vB (decide (a.dependencies=b.dependencies))) []<| .lit<| .br (.call (vB (decide (a.inclusions=b.inclusions))) []<| .fin []) (.fin [])) (.fin [])) (.fin [])) (p:=Lx (a.database.tables.map aB)<| Lx (a.catalogue.tables.map aC)<| Lx (a.dependencies.map aD)<| Lx (a.inclusions.map aG)<| Lx (b.database.tables.map aB)<| Lx (b.catalogue.tables.map aC)<| Lx (b.dependencies.map aD)<| Lx (b.inclusions.map aG)<| aBS a.database b.database/\Br (a.database=b.database) (lH a.catalogue b.catalogue/\Br (a.catalogue=b.catalogue) (qE a.dependencies b.dependencies/\Br (a.dependencies=b.dependencies) (tD a.inclusions b.inclusions/\(decide (a.inclusions=b.inclusions))=(decide (a=b))/\True) ((false)=(decide (a=b))/\True)) ((false)=(decide (a=b))/\True)) ((false)=(decide (a=b))/\True)) (by kernel_rfl) ?_;refine lx fun n0=>lx fun n1=>lx fun n2=>lx fun n3=>lx fun n4=>lx fun n5=>lx fun n6=>lx fun n7=>?_;refine⟨aKA _ _,dd (fun g10=>?_) fun g10=>?_⟩
 ·refine⟨sF _ _,dd (fun g17=>?_) fun g17=>?_⟩
  ·refine⟨aB0 _ _,dd (fun g24=>?_) fun g24=>?_⟩
   ·refine⟨aDg _ _,?_,trivial⟩
    ·first|(rw[dY];done)|(rw[dY];simp_all [cZ];done)
   ·apply et1
    ·first|(rw[dY];done)|(rw[dY];simp_all [cZ];done)
  ·apply et1
   ·first|(rw[dY];done)|(rw[dY];simp_all [cZ];done)
 ·apply et1
  ·first|(rw[dY];done)|(rw[dY];simp_all [cZ];done)
abbrev aAJ (a:aJ)(b:aJ):Prop:=Cn 104 [.agg [.str a.name,.int .i64 a.arity,.sl 34 1 (a.rows.map aE)],.agg [.str b.name,.int .i64 b.arity,.sl 34 1 (b.rows.map aE)]] (vB (decide (a=b))) []
theorem aIB (a b:aJ):aAJ a b:=by
 refine cq Tryz.func104 (.br (.fin []) (.lit<| .lit<| .lit<| .lit<| .lit<| .br (.fin []) (.len a.rows.length<| .len b.rows.length<| .lit<| .lit<| .br (.fin []) (.loop Nat (Q1 Nat) ([5]++rg 27 19) [] (fun k=>[(5,vI (k:Int))]) (fun k=>[]) (fun k=>k<=a.rows.length/\a.rows.take k=b.rows.take k) (fun k=>a.rows.length - k) (fun k=> .len a.rows.length<| .br (.elem _ aE a.rows (fun e37=> .elem _ aE b.rows (fun e42=> .call (vI (bM e37 e42)) []<| .br (.fin []) (.back [])))) (.fin [])))))) (p:=Lx (a.rows.map aE)<| Lx (b.rows.map aE)<| Nr (a.name.toList==b.name.toList) ((false)=(decide (a=b))/\True) (Nb (a.arity=b.arity) ((false)=(decide (a=b))/\True) (Lm aE a.rows/\(Lm aE b.rows/\Nb ((a.rows.length:Int)=(b.rows.length:Int)) ((false)=(decide (a=b))/\True) ((∃(k:Nat),0=(k:Int)/\k<=a.rows.length/\a.rows.take k=b.rows.take k)/\ ∀(k:Nat),(k<=a.rows.length/\a.rows.take k=b.rows.take k)->Lm aE a.rows/\Br ((k:Int)<(a.rows.length:Int)) (0<=(k:Int)/\Em aE a.rows k fun e37=>0<=(k:Int)/\Em aE b.rows k fun e42=>dA e37 e42/\Nb ((bM e37 e42)=0) ((false)=(decide (a=b))/\True) (cW ((k:Int)+1)/\ ∃(k' :Nat),((k:Int)+1)=(k' :Int)/\(k' <=a.rows.length/\a.rows.take k' =b.rows.take k')/\a.rows.length - k' <a.rows.length - k)) ((true)=(decide (a=b))/\True)))))) (by kernel_rfl) ?_;refine lx fun n0=>lx fun n1=>?_;refine dm (fun g11=>?_) fun g11=>?_
 ·apply et1
  ·first|(simp[hne];done)|(rw[iA];simp_all [cZ];done)
 ·refine dn (fun g18=>?_) fun g18=>?_
  ·apply et1
   ·first|(simp[hne];done)|(rw[iA];simp_all [cZ];done)
  ·refine⟨aAK _,aAK _,dn (fun c0=>?_) fun c0=>?_⟩
   ·have hne: ¬a=b:=fun e=>c0 (by rw[e]);apply et1
    ·first|(simp[hne];done)|(rw[iA];simp_all [cZ];done)
   ·have hl:a.rows.length=b.rows.length:=by omega
    refine⟨⟨0,rfl,aAd _,rfl⟩,fun k ⟨hk,ht⟩=>?_⟩;refine⟨aAK _,dd (fun c1=>?_) fun c1=>?_⟩
    ·refine⟨by omega,rfl,by omega,fun e37 h37=>?_⟩;refine⟨by omega,rfl,by omega,fun e42 h42=>?_⟩;refine⟨eI _ _,dn (fun c2=>?_) fun c2=>?_⟩
     ·have hne: ¬a=b:=fun e=>by subst e;have q:=bA h37 h42;subst q;exact c2 (cQ.2 rfl)
      apply et1
      ·first|(simp[hne];done)|(rw[iA];simp_all [cZ];done)
     ·refine⟨⟨by omega,by omega⟩,?_⟩;exact⟨k+1,rfl,⟨by omega,eW h37 (by rw[h42,cQ.1 c2]) ht⟩,by omega⟩
    ·have hg:=dB (by omega) hl ht;apply et1
     ·first|(simp[hne];done)|(rw[iA];simp_all [cZ];done)
abbrev aBT (a:aI)(b:aI):Prop:=Cn 46 [.agg [.sl 88 3 (a.tables.map aB)],.agg [.sl 88 3 (b.tables.map aB)]] (vB (decide (a=b))) []
theorem aKB (a b:aI):aBT a b:=by
 refine cq Tryz.func46 (.len a.tables.length<| .len b.tables.length<| .br (.fin []) (.loop Nat (Q1 Nat) ([5]++rg 13 19) [] (fun k=>[(5,vI (k:Int))]) (fun k=>[]) (fun k=>k<=a.tables.length/\a.tables.take k=b.tables.take k) (fun k=>a.tables.length - k) (fun k=> .len a.tables.length<| .br (.elem _ aB a.tables (fun e23=> .elem _ aB b.tables (fun e28=> .call (vB (decide (e23=e28))) []<| .br (.fin []) (.back [])))) (.fin [])))) (p:=Lx (a.tables.map aB)<| Lx (b.tables.map aB)<| Lm aB a.tables/\(Lm aB b.tables/\Nb ((a.tables.length:Int)=(b.tables.length:Int)) ((false)=(decide (a=b))/\True) ((∃(k:Nat),0=(k:Int)/\k<=a.tables.length/\a.tables.take k=b.tables.take k)/\ ∀(k:Nat),(k<=a.tables.length/\a.tables.take k=b.tables.take k)->Lm aB a.tables/\Br ((k:Int)<(a.tables.length:Int)) (0<=(k:Int)/\Em aB a.tables k fun e23=>0<=(k:Int)/\Em aB b.tables k fun e28=>aAJ e23 e28/\Nb (e23=e28) ((false)=(decide (a=b))/\True) (cW ((k:Int)+1)/\ ∃(k' :Nat),((k:Int)+1)=(k' :Int)/\(k' <=a.tables.length/\a.tables.take k' =b.tables.take k')/\a.tables.length - k' <a.tables.length - k)) ((true)=(decide (a=b))/\True)))) (by kernel_rfl) ?_;refine lx fun n0=>lx fun n1=>?_;refine⟨aAK _,aAK _,dn (fun c0=>?_) fun c0=>?_⟩
 ·have hne: ¬a=b:=fun e=>c0 (by rw[e]);apply et1
  ·first|(simp[hne];done)|(rw[lL];simp_all;done)
 ·have hl:a.tables.length=b.tables.length:=by omega
  refine⟨⟨0,rfl,aAd _,rfl⟩,fun k ⟨hk,ht⟩=>?_⟩;refine⟨aAK _,dd (fun c1=>?_) fun c1=>?_⟩
  ·refine⟨by omega,rfl,by omega,fun e23 h23=>?_⟩;refine⟨by omega,rfl,by omega,fun e28 h28=>?_⟩;refine⟨aIB _ _,dn (fun c2=>?_) fun c2=>?_⟩
   ·have hne: ¬a=b:=fun e=>by subst e;exact c2 (bA h28 h23)
    apply et1
    ·first|(simp[hne];done)|(rw[lL];simp_all;done)
   ·refine⟨⟨by omega,by omega⟩,?_⟩;exact⟨k+1,rfl,⟨by omega,eW h23 (by rw[h28,c2]) ht⟩,by omega⟩
  ·have hg:=dB (by omega) hl ht;apply et1
   ·first|(simp[hne];done)|(rw[lL];simp_all;done)
theorem aPM {x y:aN}(h1:x.name=y.name)(h2:x.src=y.src)(h3:x.dst=y.dst):x=y:=by
 obtain⟨a,b,c⟩:=x;obtain⟨d,e,f⟩:=y;simp at h1 h2 h3;subst h1 h2 h3;rfl
abbrev lM (a:bE)(b:bE):Prop:=Cn 13 [.agg [.sl 88 3 (a.database.tables.map aB),.int .i64 a.catalogue.version,.sl 91 4 (a.catalogue.tables.map aC),.sl 77 3 (a.dependencies.map aD),.sl 81 4 (a.inclusions.map aG)],.agg [.sl 88 3 (b.database.tables.map aB),.int .i64 b.catalogue.version,.sl 91 4 (b.catalogue.tables.map aC),.sl 77 3 (b.dependencies.map aD),.sl 81 4 (b.inclusions.map aG)]] (vB (decide (a=b))) []
theorem sW (a b:bE)(ha:dE a<=1048576):lM a b:=by
 refine cq Tryz.func13 (.call (vB (decide (a.database=b.database))) []<| .br (.fin []) (.call (vB (decide (a.catalogue=b.catalogue))) []<| .lit<| .lit<| .br (.fin []) (.len a.dependencies.length<| .len b.dependencies.length<| .lit<| .lit<| .br (.fin []) (.len a.inclusions.length<| .len b.inclusions.length<| .lit<| .lit<| .br (.fin []) (.loop Nat (Q1 Nat) ([5]++rg 39 51) [] (fun i=>[(5,vI (i:Int))]) (fun i=>[]) (fun i=>i<=a.dependencies.length/\a.dependencies.take i=b.dependencies.take i) (fun i=>a.dependencies.length - i) (fun i=> .len a.dependencies.length<| .br (.elem _ aD a.dependencies (fun e49=> .elem _ aD b.dependencies (fun e55=> .br (.fin []) (.elem _ aD a.dependencies (fun e63=> .elem _ aD b.dependencies (fun e69=> .lit<| .lit<| .lit<| .lit<| .br (.fin []) (.elem _ aD a.dependencies (fun e78=> .elem _ aD b.dependencies (fun e84=> .call (vI (bM e78.src e84.src)) []<| .lit<| .lit<| .br (.fin []) (.back [])))))))))) (.loop Nat (Q1 Nat) ([6]++rg 90 18) [] (fun k=>[(6,vI (k:Int))]) (fun k=>[]) (fun k=>k<=a.inclusions.length/\a.inclusions.take k=b.inclusions.take k) (fun k=>a.inclusions.length - k) (fun k=> .len a.inclusions.length<| .br (.elem _ aG a.inclusions (fun e100=> .elem _ aG b.inclusions (fun e105=> .br (.fin []) (.back [])))) (.fin []))))))))) (p:=Lx (a.database.tables.map aB)<| Lx (a.catalogue.tables.map aC)<| Lx (a.dependencies.map aD)<| Lx (a.inclusions.map aG)<| Lx (b.database.tables.map aB)<| Lx (b.catalogue.tables.map aC)<| Lx (b.dependencies.map aD)<| Lx (b.inclusions.map aG)<| aBT a.database b.database/\Nb (a.database=b.database) ((false)=(decide (a=b))/\True) (sG a.catalogue b.catalogue/\Nb (a.catalogue=b.catalogue) ((false)=(decide (a=b))/\True) (Lm aD a.dependencies/\(Lm aD b.dependencies/\Nb ((a.dependencies.length:Int)=(b.dependencies.length:Int)) ((false)=(decide (a=b))/\True) (Lm aG a.inclusions/\(Lm aG b.inclusions/\Nb ((a.inclusions.length:Int)=(b.inclusions.length:Int)) ((false)=(decide (a=b))/\True) ((∃(i:Nat),0=(i:Int)/\i<=a.dependencies.length/\a.dependencies.take i=b.dependencies.take i)/\ ∀(i:Nat),(i<=a.dependencies.length/\a.dependencies.take i=b.dependencies.take i)->Lm aD a.dependencies/\Br ((i:Int)<(a.dependencies.length:Int)) (0<=(i:Int)/\Em aD a.dependencies i fun e49=>0<=(i:Int)/\Em aD b.dependencies i fun e55=>Nr (e49.name.toList==e55.name.toList) ((false)=(decide (a=b))/\True) (0<=(i:Int)/\Em aD a.dependencies i fun e63=>0<=(i:Int)/\Em aD b.dependencies i fun e69=>Nb (e63.dst=e69.dst) ((false)=(decide (a=b))/\True) (0<=(i:Int)/\Em aD a.dependencies i fun e78=>0<=(i:Int)/\Em aD b.dependencies i fun e84=>dA e78.src e84.src/\Nb ((bM e78.src e84.src)=0) ((false)=(decide (a=b))/\True) (cW ((i:Int)+1)/\ ∃(i' :Nat),((i:Int)+1)=(i' :Int)/\(i' <=a.dependencies.length/\a.dependencies.take i' =b.dependencies.take i')/\a.dependencies.length - i' <a.dependencies.length - i)))) ((∃(k:Nat),0=(k:Int)/\k<=a.inclusions.length/\a.inclusions.take k=b.inclusions.take k)/\ ∀(k:Nat),(k<=a.inclusions.length/\a.inclusions.take k=b.inclusions.take k)->Lm aG a.inclusions/\Br ((k:Int)<(a.inclusions.length:Int)) (0<=(k:Int)/\Em aG a.inclusions k fun e100=>0<=(k:Int)/\Em aG b.inclusions k fun e105=>Nr ((e100.name.toList==e105.name.toList)&&((e100.column==e105.column)&&((e100.into.toList==e105.into.toList)&&((e100.intoColumn==e105.intoColumn)&&true)))) ((false)=(decide (a=b))/\True) (cW ((k:Int)+1)/\ ∃(k' :Nat),((k:Int)+1)=(k' :Int)/\(k' <=a.inclusions.length/\a.inclusions.take k' =b.inclusions.take k')/\a.inclusions.length - k' <a.inclusions.length - k)) ((true)=(decide (a=b))/\True))))))))) (by kernel_rfl) ?_;refine lx fun n0=>lx fun n1=>lx fun n2=>lx fun n3=>lx fun n4=>lx fun n5=>lx fun n6=>lx fun n7=>?_;have hS:dE a=aT a.database+cI a.catalogue+bF a.dependencies+bV a.inclusions:=rfl;refine⟨aKB _ _,dn (fun g13=>?_) fun g13=>?_⟩
 ·apply et1
  ·first|(simp[hne];done)|(rw[dY];simp_all;done)
 ·refine⟨aC1 _ _ (by omega),dn (fun g21=>?_) fun g21=>?_⟩
  ·apply et1
   ·first|(simp[hne];done)|(rw[dY];simp_all;done)
  ·refine⟨aAK _,aAK _,dn (fun g30=>?_) fun g30=>?_⟩
   ·have hne: ¬a=b:=fun e=>g30 (by rw[e]);apply et1
    ·first|(simp[hne];done)|(rw[dY];simp_all;done)
   ·refine⟨aAK _,aAK _,dn (fun c0=>?_) fun c0=>?_⟩
    ·have hne: ¬a=b:=fun e=>c0 (by rw[e]);apply et1
     ·first|(simp[hne];done)|(rw[dY];simp_all;done)
    ·have hl2:a.inclusions.length=b.inclusions.length:=by omega
     have hl:a.dependencies.length=b.dependencies.length:=by omega
     refine⟨⟨0,rfl,aAd _,rfl⟩,fun i ⟨hi,ht⟩=>?_⟩;refine⟨aAK _,dd (fun c1=>?_) fun c1=>?_⟩
     ·obtain⟨x,hx⟩:=cT (l:=a.dependencies) (k:=i) (by omega);obtain⟨y,hy⟩:=cT (l:=b.dependencies) (k:=i) (by omega);refine⟨by omega,rfl,by omega,fun e49 h49=>?_⟩;obtain rfl:=(bA hx h49).symm;refine⟨by omega,rfl,by omega,fun e55 h55=>?_⟩;obtain rfl:=(bA hy h55).symm;refine dm (fun g59=>?_) fun g59=>?_
      ·have hne: ¬a=b:=fun e=>by subst e;have q:=bA hx hy;subst q;simp at g59
       apply et1
       ·first|(simp[hne];done)|(rw[dY];simp_all;done)
      ·refine⟨by omega,rfl,by omega,fun e63 h63=>?_⟩;obtain rfl:=(bA hx h63).symm;refine⟨by omega,rfl,by omega,fun e69 h69=>?_⟩;obtain rfl:=(bA hy h69).symm;refine dn (fun g74=>?_) fun g74=>?_
       ·have hne: ¬a=b:=fun e=>by subst e;have q:=bA hx hy;subst q;exact g74 rfl
        apply et1
        ·first|(simp[hne];done)|(rw[dY];simp_all;done)
       ·refine⟨by omega,rfl,by omega,fun e78 h78=>?_⟩;obtain rfl:=(bA hx h78).symm;refine⟨by omega,rfl,by omega,fun e84 h84=>?_⟩;obtain rfl:=(bA hy h84).symm;refine⟨eI _ _,dn (fun c2=>?_) fun c2=>?_⟩
        ·have hne: ¬a=b:=fun e=>by subst e;have q:=bA hx hy;subst q;exact c2 (cQ.2 rfl)
         apply et1
         ·first|(simp[hne];done)|(rw[dY];simp_all;done)
        ·have hxy:y=x:=(aPM (by simpa [cZ] using g59) (cQ.1 c2) g74).symm;refine⟨⟨by omega,by omega⟩,?_⟩;exact⟨i+1,rfl,⟨by omega,eW hx (by rw[hy,hxy]) ht⟩,by omega⟩
     ·have hg:=dB (by omega) hl ht;refine⟨⟨0,rfl,aAd _,rfl⟩,fun k ⟨hk,hu⟩=>?_⟩;refine⟨aAK _,dd (fun c3=>?_) fun c3=>?_⟩
      ·refine⟨by omega,rfl,by omega,fun e100 h100=>?_⟩;refine⟨by omega,rfl,by omega,fun e105 h105=>?_⟩;refine dm (fun c4=>?_) fun c4=>?_
       ·rw[aF7] at c4;have hne: ¬a=b:=fun e=>by subst e;have q:=bA h100 h105;subst q;simp at c4
        apply et1
        ·first|(simp[hne];done)|(rw[dY];simp_all;done)
       ·rw[aF7] at c4;have hz:e105=e100:=(by simpa using c4:e100=e105).symm;refine⟨⟨by omega,by omega⟩,?_⟩;exact⟨k+1,rfl,⟨by omega,eW h100 (by rw[h105,hz]) hu⟩,by omega⟩
      ·have hg2:=dB (by omega) hl2 hu;apply et1
       ·first|(simp[hne];done)|(rw[dY];simp_all;done)
end Go.Proofs.YtafmaholhcgakaaGreat
