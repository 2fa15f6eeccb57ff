/-
  Contracts and plain laws, joined: part 21.
-/
import Derived.Test.YtlidmoeecphbmaaGreates19
import Derived.Test.YtlidmoeecphbmaaGreates3
import Derived.Shelf.SlicesE.Clone
import Derived.Ground.SlgnProg
namespace Go.Proofs.YtlidmoeecphbmaaGreat
open Go.ChangeShapes Go.WideShapes Go.ChangeAt Go.RowKit
set_option linter.unusedVariables false
set_option linter.unusedSimpArgs false
set_option maxRecDepth 100000
set_option maxHeartbeats 4000000
theorem iM {d:aM}{i j:Nat}{r:List aB}{x:aB}(hr:d.table[i]? =some r)(hx:r[j]? =some x):jE d i j=x:=by rw[jE,bG hr,bG hx]
theorem aPl {d:aM}{j n k:Nat}{b:Int}{l x:aB}{r:List aB}(hk:k<n)(hr:d.table[k]? =some r)(hx:r[j]? =some x)(h:x.num<=0):fD d j (n - k) k b l=fD d j (n - (k+1)) (k+1) b l:=aRP hk (by rw[iM hr hx];exact h)
theorem aSW {d:aM}{j n k:Nat}{b:Int}{l x m:aB}{r:List aB}(hk:k<n)(hr:d.table[k]? =some r)(hx:r[j]? =some x)(h: ¬x.num<=0)(hm:d.limits[k]? =some m)(h2:(bA m x).2=false):fD d j (n - k) k b l= -1:=aUC hk (by rw[iM hr hx];exact h) (by rw[iM hr hx,bG hm];exact h2)
theorem aCJ {d:aM}{j n k:Nat}{b:Int}{l x m:aB}{r:List aB}(hk:k<n)(hr:d.table[k]? =some r)(hx:r[j]? =some x)(h: ¬x.num<=0)(hm:d.limits[k]? =some m)(h2:(bA m x).2=true)(h3:oH d b (fP (bA m x).1 l) k=true):fD d j (n - k) k b l=fD d j (n - (k+1)) (k+1) (k:Int) (bA m x).1:=by
 have e:=aUD (d:=d) (j:=j) (b:=b) (l:=l) hk (by rw[iM hr hx];exact h) (by rw[iM hr hx,bG hm];exact h2) (by rw[iM hr hx,bG hm];exact h3);rw[e,iM hr hx,bG hm]
theorem aNb {d:aM}{j n k:Nat}{b:Int}{l x m:aB}{r:List aB}(hk:k<n)(hr:d.table[k]? =some r)(hx:r[j]? =some x)(h: ¬x.num<=0)(hm:d.limits[k]? =some m)(h2:(bA m x).2=true)(h3:oH d b (fP (bA m x).1 l) k=false):fD d j (n - k) k b l=fD d j (n - (k+1)) (k+1) b l:=aWy hk (by rw[iM hr hx];exact h) (by rw[iM hr hx,bG hm];exact h2) (by rw[iM hr hx,bG hm];exact h3)
theorem aZN {d:aM}{b c:Int}{k:Nat}(h:b<0):oH d b c k=true:=by rw[oH,decide_eq_true h];rfl
theorem aZO {d:aM}{b c:Int}{k:Nat}(h:c<0):oH d b c k=true:=by rw[oH,decide_eq_true h];simp
theorem aZP {d:aM}{b c y z:Int}{k:Nat}(h:c=0)(hy:d.basic[k]? =some y)(hz:d.basic[b.toNat]? =some z)(h2:y<z):oH d b c k=true:=by rw[oH,decide_eq_true h,bG hy,bG hz,decide_eq_true h2];simp
theorem aZQ {d:aM}{b c:Int}{k:Nat}(h: ¬b<0)(h1: ¬c<0)(h2: ¬c=0):oH d b c k=false:=by rw[oH,decide_eq_false h,decide_eq_false h1,decide_eq_false h2];rfl
theorem aZR {d:aM}{b c y z:Int}{k:Nat}(h: ¬b<0)(h1: ¬c<0)(hy:d.basic[k]? =some y)(hz:d.basic[b.toNat]? =some z)(h2: ¬y<z):oH d b c k=false:=by rw[oH,decide_eq_false h,decide_eq_false h1,bG hy,bG hz,decide_eq_false h2];simp
theorem aMZ {d:aM}{j k:Nat}{b:Int}{l:aB}(h:d.basic.length<=k)(hv:fD d j (d.basic.length - k) k b l=hZ d j):hZ d j=b:=by rw[<-hv,Nat.sub_eq_zero_of_le h,fD]
theorem aJh {d:aM}{j:Int}(h:dR d=true)(hj:0<=j/\j<d.others.length):qP d j=hZ d j.toNat:=by rw[qP,if_pos ⟨h,hj⟩]
theorem aYr {d:aM}{j:Int}(h:dR d=false):qP d j= -1:=by rw[qP,if_neg (by rw[h];simp)]
theorem aXD {d:aM}{j:Int}(h: ¬(0<=j/\j<d.others.length)):qP d j= -1:=by rw[qP,if_neg (fun q=>h q.2)]
abbrev aJi (d:aM)(j:Int):Prop:=Cn 105 [.agg [.sl 3 1 (d.basic.map intD),.sl 3 1 (d.others.map intD),.sl 61 1 (d.table.map aH),.sl 38 2 (d.limits.map aA),.sl 38 2 (d.costs.map aA),.int .i64 d.value.num,.int .i64 d.value.den],.one (.int .i64 j)] (vI (hZ d j.toNat)) []
theorem aXE (d:aM)(j:Int)(hd:dR d=true)(hj:0<=j/\j<d.others.length):aJi d j:=by
 refine cq Tryz.func105 (.len d.basic.length<| .loop (Nat × Int × Int × Int) (Q4 Nat Int Int Int) ([5,7,8,9,10]++rg 15 61) [600,800] (fun yy0=>[(15,vI (yy0.1:Int)),(5,vI yy0.2.1)]) (fun yy0=>[(600,some (.box 38 [vI yy0.2.2.1,vI yy0.2.2.2]))]) (fun yy0=>yy0.1<=d.basic.length/\(-1<=yy0.2.1/\yy0.2.1<yy0.1)/\fD d j.toNat (d.basic.length - yy0.1) yy0.1 yy0.2.1 ⟨yy0.2.2.1,yy0.2.2.2⟩=hZ d j.toNat) (fun yy0=>d.basic.length - yy0.1) (fun yy0=> .br (.elem _ aH d.table (fun e21=> .elem _ aA e21 (fun e24=> .br (.back [(600,600)]) (.elem _ aA d.limits (fun e32=> .elem _ aH d.table (fun e37=> .elem _ aA e37 (fun e40=>bJ (zD e32 e40)<| .br (.fin []) (.call (vI (fP ((bA e32 e40).1) (⟨yy0.2.2.1,yy0.2.2.2⟩:aB))) []<| .br (.back [(600,600)]) (.lit<| .lit<| .br (.back [(600,600)]) (.lit<| .lit<| .br (.elem _ intD d.basic (fun e63=> .elem _ intD d.basic (fun e68=> .lit<| .lit<| .lit<| .lit<| .lit<| .br (.back [(600,600)]) (.back [(600,600)])))) (.back [(600,600)]))))))))))) (.fin []))) (p:=Lx (d.basic.map intD)<| Lx (d.others.map intD)<| Lx (d.table.map aH)<| Lx (d.limits.map aA)<| Lx (d.costs.map aA)<| Lm intD d.basic/\((∃(k:Nat) (b:Int) (ln:Int) (ld:Int),0=(k:Int)/\(-1:Int)=b/\0=ln/\0=ld/\k<=d.basic.length/\(-1<=b/\b<k)/\fD d j.toNat (d.basic.length - k) k b ⟨ln,ld⟩=hZ d j.toNat)/\ ∀(k:Nat) (b:Int) (ln:Int) (ld:Int),(k<=d.basic.length/\(-1<=b/\b<k)/\fD d j.toNat (d.basic.length - k) k b ⟨ln,ld⟩=hZ d j.toNat)->Br ((k:Int)<(d.basic.length:Int)) (0<=(k:Int)/\Em aH d.table k fun e21=>0<=j/\Em aA e21 ((j).toNat) fun e24=>Br (e24.num<=0) (bK ((k:Int)+1)/\ ∃(k' :Nat) (b' :Int) (ln' :Int) (ld' :Int),((k:Int)+1)=(k' :Int)/\b=b' /\ln=ln' /\ld=ld' /\(k' <=d.basic.length/\(-1<=b' /\b' <k')/\fD d j.toNat (d.basic.length - k') k' b' ⟨ln',ld'⟩=hZ d j.toNat)/\d.basic.length - k' <d.basic.length - k) (0<=(k:Int)/\Em aA d.limits k fun e32=>0<=(k:Int)/\Em aH d.table k fun e37=>0<=j/\Em aA e37 ((j).toNat) fun e40=>aDP e32 e40/\Nr ((bA e32 e40).2) ((-1:Int)=(hZ d j.toNat)/\True) (aJ6 ((bA e32 e40).1) (⟨ln,ld⟩:aB)/\Br (b<0) (bK ((k:Int)+1)/\ ∃(k' :Nat) (b' :Int) (ln' :Int) (ld' :Int),((k:Int)+1)=(k' :Int)/\(k:Int)=b' /\((bA e32 e40).1.num)=ln' /\((bA e32 e40).1.den)=ld' /\(k' <=d.basic.length/\(-1<=b' /\b' <k')/\fD d j.toNat (d.basic.length - k') k' b' ⟨ln',ld'⟩=hZ d j.toNat)/\d.basic.length - k' <d.basic.length - k) (Br ((fP ((bA e32 e40).1) (⟨ln,ld⟩:aB))<0) (bK ((k:Int)+1)/\ ∃(k' :Nat) (b' :Int) (ln' :Int) (ld' :Int),((k:Int)+1)=(k' :Int)/\(k:Int)=b' /\((bA e32 e40).1.num)=ln' /\((bA e32 e40).1.den)=ld' /\(k' <=d.basic.length/\(-1<=b' /\b' <k')/\fD d j.toNat (d.basic.length - k') k' b' ⟨ln',ld'⟩=hZ d j.toNat)/\d.basic.length - k' <d.basic.length - k) (Br ((fP ((bA e32 e40).1) (⟨ln,ld⟩:aB))=0) (0<=(k:Int)/\Em intD d.basic k fun e63=>0<=b/\Em intD d.basic ((b).toNat) fun e68=>Br (e63<e68) (bK ((k:Int)+1)/\ ∃(k' :Nat) (b' :Int) (ln' :Int) (ld' :Int),((k:Int)+1)=(k' :Int)/\(k:Int)=b' /\((bA e32 e40).1.num)=ln' /\((bA e32 e40).1.den)=ld' /\(k' <=d.basic.length/\(-1<=b' /\b' <k')/\fD d j.toNat (d.basic.length - k') k' b' ⟨ln',ld'⟩=hZ d j.toNat)/\d.basic.length - k' <d.basic.length - k) (bK ((k:Int)+1)/\ ∃(k' :Nat) (b' :Int) (ln' :Int) (ld' :Int),((k:Int)+1)=(k' :Int)/\b=b' /\ln=ln' /\ld=ld' /\(k' <=d.basic.length/\(-1<=b' /\b' <k')/\fD d j.toNat (d.basic.length - k') k' b' ⟨ln',ld'⟩=hZ d j.toNat)/\d.basic.length - k' <d.basic.length - k)) (bK ((k:Int)+1)/\ ∃(k' :Nat) (b' :Int) (ln' :Int) (ld' :Int),((k:Int)+1)=(k' :Int)/\b=b' /\ln=ln' /\ld=ld' /\(k' <=d.basic.length/\(-1<=b' /\b' <k')/\fD d j.toNat (d.basic.length - k') k' b' ⟨ln',ld'⟩=hZ d j.toNat)/\d.basic.length - k' <d.basic.length - k)))))) (b=(hZ d j.toNat)/\True))) (by kernel_rfl) ?_;refine lx fun n0=>lx fun n1=>lx fun n2=>lx fun n3=>lx fun n4=>?_;obtain⟨b1,b2,b3,b4,b5,b6,b7,b8⟩:=jG hd;refine⟨aAH _,⟨0,-1,0,0,rfl,rfl,rfl,rfl,aDB _,by omega,rfl⟩,fun k b ln ld ⟨hk,hb,hv⟩=>?_⟩;refine dd (fun c0=>?_) fun c0=>?_
 ·refine⟨by omega,rfl,by omega,fun e21 h21=>?_⟩;have hrl:=(b5 _ (aDd h21)).1;refine⟨by omega,rfl,by omega,fun e24 h24=>?_⟩;refine dd (fun c1=>?_) fun c1=>?_
  ·refine⟨⟨by omega,by omega⟩,?_⟩;exact⟨k+1,b,ln,ld,rfl,rfl,rfl,rfl,⟨by omega,by omega,by exact(aPl (by omega) h21 h24 c1).symm.trans hv⟩,by omega⟩
  ·refine⟨by omega,rfl,by omega,fun e32 h32=>?_⟩;refine⟨by omega,rfl,by omega,fun e37 h37=>?_⟩;obtain rfl:=aY h21 h37;refine⟨by omega,rfl,by omega,fun e40 h40=>?_⟩;obtain rfl:=aY h24 h40;refine⟨aP1 e32 e40,dm (fun c2=>?_) fun c2=>?_⟩
   ·apply et1
    ·(rw[<-hv,aSW (by omega) h21 h24 c1 h32 c2];done)
   ·refine⟨aWp ((bA e32 e40).1) (⟨ln,ld⟩:aB),dd (fun g52=>?_) fun g52=>?_⟩
    ·refine⟨⟨by omega,by omega⟩,?_⟩;exact⟨k+1,(k:Int),(bA e32 e40).1.num,(bA e32 e40).1.den,rfl,rfl,rfl,rfl,⟨by omega,by omega,by exact(aCJ (by omega) h21 h24 c1 h32 c2 (aZN g52)).symm.trans hv⟩,by omega⟩
    ·refine dd (fun g56=>?_) fun g56=>?_
     ·refine⟨⟨by omega,by omega⟩,?_⟩;exact⟨k+1,(k:Int),(bA e32 e40).1.num,(bA e32 e40).1.den,rfl,rfl,rfl,rfl,⟨by omega,by omega,by exact(aCJ (by omega) h21 h24 c1 h32 c2 (aZO g56)).symm.trans hv⟩,by omega⟩
     ·refine dd (fun g59=>?_) fun g59=>?_
      ·refine⟨by omega,rfl,by omega,fun e63 h63=>?_⟩;refine⟨by omega,rfl,by omega,fun e68 h68=>?_⟩;refine dd (fun c3=>?_) fun c3=>?_
       ·refine⟨⟨by omega,by omega⟩,?_⟩;exact⟨k+1,(k:Int),(bA e32 e40).1.num,(bA e32 e40).1.den,rfl,rfl,rfl,rfl,⟨by omega,by omega,by exact(aCJ (by omega) h21 h24 c1 h32 c2 (aZP g59 h63 h68 c3)).symm.trans hv⟩,by omega⟩
       ·refine⟨⟨by omega,by omega⟩,?_⟩;exact⟨k+1,b,ln,ld,rfl,rfl,rfl,rfl,⟨by omega,by omega,by exact(aNb (by omega) h21 h24 c1 h32 c2 (aZR g52 g56 h63 h68 c3)).symm.trans hv⟩,by omega⟩
      ·refine⟨⟨by omega,by omega⟩,?_⟩;exact⟨k+1,b,ln,ld,rfl,rfl,rfl,rfl,⟨by omega,by omega,by exact(aNb (by omega) h21 h24 c1 h32 c2 (aZQ g52 g56 g59)).symm.trans hv⟩,by omega⟩
 ·apply et1
  ·(rw[aMZ (by omega) hv];done)
abbrev aJj (d:aM)(j:Int):Prop:=Cn 97 [.agg [.sl 3 1 (d.basic.map intD),.sl 3 1 (d.others.map intD),.sl 61 1 (d.table.map aH),.sl 38 2 (d.limits.map aA),.sl 38 2 (d.costs.map aA),.int .i64 d.value.num,.int .i64 d.value.den],.one (.int .i64 j)] (vI (qP d j)) []
theorem aXF (d:aM)(j:Int)(h0:d.basic.length<=1048576)(h1:d.others.length<=1048576):aJj d j:=by
 refine cq Tryz.func97 (.call (vB (dR d)) []<| .br (.fin []) (.len d.others.length<| .call (vB (decide (0<=j/\j<=((d.others.length:Int) - 1)))) []<| .lit<| .lit<| .br (.fin []) (.loop (Nat × Int × Int × Int) (Q4 Nat Int Int Int) ([5,7,8,9,10]++rg 24 64) [600,800] (fun yy0=>[(7,vI (yy0.1:Int)),(5,vI yy0.2.1)]) (fun yy0=>[(600,some (.box 38 [vI yy0.2.2.1,vI yy0.2.2.2]))]) (fun yy0=>yy0.1<=d.basic.length/\(-1<=yy0.2.1/\yy0.2.1<yy0.1)/\fD d j.toNat (d.basic.length - yy0.1) yy0.1 yy0.2.1 ⟨yy0.2.2.1,yy0.2.2.2⟩=hZ d j.toNat) (fun yy0=>d.basic.length - yy0.1) (fun yy0=> .len d.basic.length<| .br (.elem _ aH d.table (fun e34=> .elem _ aA e34 (fun e37=> .br (.back [(600,600)]) (.elem _ aA d.limits (fun e45=> .elem _ aH d.table (fun e50=> .elem _ aA e50 (fun e53=>bJ (qO e45 e53)<| .br (.fin []) (.call (vI (fP ((bA e45 e53).1) (⟨yy0.2.2.1,yy0.2.2.2⟩:aB))) []<| .br (.back [(600,600)]) (.lit<| .lit<| .br (.back [(600,600)]) (.lit<| .lit<| .br (.elem _ intD d.basic (fun e76=> .elem _ intD d.basic (fun e81=> .lit<| .lit<| .lit<| .lit<| .lit<| .br (.back [(600,600)]) (.back [(600,600)])))) (.back [(600,600)]))))))))))) (.fin []))))) (p:=Lx (d.basic.map intD)<| Lx (d.others.map intD)<| Lx (d.table.map aH)<| Lx (d.limits.map aA)<| Lx (d.costs.map aA)<| zG d/\Nr (dR d) ((-1:Int)=(qP d j)/\True) (Lm intD d.others/\(bK ((d.others.length:Int) - 1)/\(fQ j (0:Int) ((d.others.length:Int) - 1)/\Nb (0<=j/\j<=((d.others.length:Int) - 1)) ((-1:Int)=(qP d j)/\True) ((∃(k:Nat) (b:Int) (ln:Int) (ld:Int),0=(k:Int)/\(-1:Int)=b/\0=ln/\0=ld/\k<=d.basic.length/\(-1<=b/\b<k)/\fD d j.toNat (d.basic.length - k) k b ⟨ln,ld⟩=hZ d j.toNat)/\ ∀(k:Nat) (b:Int) (ln:Int) (ld:Int),(k<=d.basic.length/\(-1<=b/\b<k)/\fD d j.toNat (d.basic.length - k) k b ⟨ln,ld⟩=hZ d j.toNat)->Lm intD d.basic/\Br ((k:Int)<(d.basic.length:Int)) (0<=(k:Int)/\Em aH d.table k fun e34=>0<=j/\Em aA e34 ((j).toNat) fun e37=>Br (e37.num<=0) (bK ((k:Int)+1)/\ ∃(k' :Nat) (b' :Int) (ln' :Int) (ld' :Int),((k:Int)+1)=(k' :Int)/\b=b' /\ln=ln' /\ld=ld' /\(k' <=d.basic.length/\(-1<=b' /\b' <k')/\fD d j.toNat (d.basic.length - k') k' b' ⟨ln',ld'⟩=hZ d j.toNat)/\d.basic.length - k' <d.basic.length - k) (0<=(k:Int)/\Em aA d.limits k fun e45=>0<=(k:Int)/\Em aH d.table k fun e50=>0<=j/\Em aA e50 ((j).toNat) fun e53=>uI e45 e53/\Nr ((bA e45 e53).2) ((-1:Int)=(qP d j)/\True) (aJ7 ((bA e45 e53).1) (⟨ln,ld⟩:aB)/\Br (b<0) (bK ((k:Int)+1)/\ ∃(k' :Nat) (b' :Int) (ln' :Int) (ld' :Int),((k:Int)+1)=(k' :Int)/\(k:Int)=b' /\((bA e45 e53).1.num)=ln' /\((bA e45 e53).1.den)=ld' /\(k' <=d.basic.length/\(-1<=b' /\b' <k')/\fD d j.toNat (d.basic.length - k') k' b' ⟨ln',ld'⟩=hZ d j.toNat)/\d.basic.length - k' <d.basic.length - k) (Br ((fP ((bA e45 e53).1) (⟨ln,ld⟩:aB))<0) (bK ((k:Int)+1)/\ ∃(k' :Nat) (b' :Int) (ln' :Int) (ld' :Int),((k:Int)+1)=(k' :Int)/\(k:Int)=b' /\((bA e45 e53).1.num)=ln' /\((bA e45 e53).1.den)=ld' /\(k' <=d.basic.length/\(-1<=b' /\b' <k')/\fD d j.toNat (d.basic.length - k') k' b' ⟨ln',ld'⟩=hZ d j.toNat)/\d.basic.length - k' <d.basic.length - k) (Br ((fP ((bA e45 e53).1) (⟨ln,ld⟩:aB))=0) (0<=(k:Int)/\Em intD d.basic k fun e76=>0<=b/\Em intD d.basic ((b).toNat) fun e81=>Br (e76<e81) (bK ((k:Int)+1)/\ ∃(k' :Nat) (b' :Int) (ln' :Int) (ld' :Int),((k:Int)+1)=(k' :Int)/\(k:Int)=b' /\((bA e45 e53).1.num)=ln' /\((bA e45 e53).1.den)=ld' /\(k' <=d.basic.length/\(-1<=b' /\b' <k')/\fD d j.toNat (d.basic.length - k') k' b' ⟨ln',ld'⟩=hZ d j.toNat)/\d.basic.length - k' <d.basic.length - k) (bK ((k:Int)+1)/\ ∃(k' :Nat) (b' :Int) (ln' :Int) (ld' :Int),((k:Int)+1)=(k' :Int)/\b=b' /\ln=ln' /\ld=ld' /\(k' <=d.basic.length/\(-1<=b' /\b' <k')/\fD d j.toNat (d.basic.length - k') k' b' ⟨ln',ld'⟩=hZ d j.toNat)/\d.basic.length - k' <d.basic.length - k)) (bK ((k:Int)+1)/\ ∃(k' :Nat) (b' :Int) (ln' :Int) (ld' :Int),((k:Int)+1)=(k' :Int)/\b=b' /\ln=ln' /\ld=ld' /\(k' <=d.basic.length/\(-1<=b' /\b' <k')/\fD d j.toNat (d.basic.length - k') k' b' ⟨ln',ld'⟩=hZ d j.toNat)/\d.basic.length - k' <d.basic.length - k)))))) (b=(qP d j)/\True)))))) (by kernel_rfl) ?_;refine lx fun n0=>lx fun n1=>lx fun n2=>lx fun n3=>lx fun n4=>?_;refine⟨aJf d (by omega) (by omega),dm (fun g15=>?_) fun g15=>?_⟩
 ·apply et1
  ·(rw[aYr g15];done)
 ·refine⟨aAH _,⟨by omega,by omega⟩,jP _ _ _,dn (fun c0=>?_) fun c0=>?_⟩
  ·apply et1
   ·(rw[aXD (by omega)];done)
  ·have hd:dR d=true:=g15;have hj:0<=j/\j<d.others.length:=by omega
   obtain⟨b1,b2,b3,b4,b5,b6,b7,b8⟩:=jG hd;refine⟨⟨0,-1,0,0,rfl,rfl,rfl,rfl,aDB _,by omega,rfl⟩,fun k b ln ld ⟨hk,hb,hv⟩=>?_⟩;refine⟨aAH _,dd (fun c1=>?_) fun c1=>?_⟩
   ·refine⟨by omega,rfl,by omega,fun e34 h34=>?_⟩;have hrl:=(b5 _ (aDd h34)).1;refine⟨by omega,rfl,by omega,fun e37 h37=>?_⟩;refine dd (fun c2=>?_) fun c2=>?_
    ·refine⟨⟨by omega,by omega⟩,?_⟩;exact⟨k+1,b,ln,ld,rfl,rfl,rfl,rfl,⟨by omega,by omega,by exact(aPl (by omega) h34 h37 c2).symm.trans hv⟩,by omega⟩
    ·refine⟨by omega,rfl,by omega,fun e45 h45=>?_⟩;refine⟨by omega,rfl,by omega,fun e50 h50=>?_⟩;obtain rfl:=aY h34 h50;refine⟨by omega,rfl,by omega,fun e53 h53=>?_⟩;obtain rfl:=aY h37 h53;refine⟨aEb e45 e53,dm (fun c3=>?_) fun c3=>?_⟩
     ·apply et1
      ·(rw[aJh hd hj,<-hv,aSW (by omega) h34 h37 c2 h45 c3];done)
     ·refine⟨aWq ((bA e45 e53).1) (⟨ln,ld⟩:aB),dd (fun g65=>?_) fun g65=>?_⟩
      ·refine⟨⟨by omega,by omega⟩,?_⟩;exact⟨k+1,(k:Int),(bA e45 e53).1.num,(bA e45 e53).1.den,rfl,rfl,rfl,rfl,⟨by omega,by omega,by exact(aCJ (by omega) h34 h37 c2 h45 c3 (aZN g65)).symm.trans hv⟩,by omega⟩
      ·refine dd (fun g69=>?_) fun g69=>?_
       ·refine⟨⟨by omega,by omega⟩,?_⟩;exact⟨k+1,(k:Int),(bA e45 e53).1.num,(bA e45 e53).1.den,rfl,rfl,rfl,rfl,⟨by omega,by omega,by exact(aCJ (by omega) h34 h37 c2 h45 c3 (aZO g69)).symm.trans hv⟩,by omega⟩
       ·refine dd (fun g72=>?_) fun g72=>?_
        ·refine⟨by omega,rfl,by omega,fun e76 h76=>?_⟩;refine⟨by omega,rfl,by omega,fun e81 h81=>?_⟩;refine dd (fun c4=>?_) fun c4=>?_
         ·refine⟨⟨by omega,by omega⟩,?_⟩;exact⟨k+1,(k:Int),(bA e45 e53).1.num,(bA e45 e53).1.den,rfl,rfl,rfl,rfl,⟨by omega,by omega,by exact(aCJ (by omega) h34 h37 c2 h45 c3 (aZP g72 h76 h81 c4)).symm.trans hv⟩,by omega⟩
         ·refine⟨⟨by omega,by omega⟩,?_⟩;exact⟨k+1,b,ln,ld,rfl,rfl,rfl,rfl,⟨by omega,by omega,by exact(aNb (by omega) h34 h37 c2 h45 c3 (aZR g65 g69 h76 h81 c4)).symm.trans hv⟩,by omega⟩
        ·refine⟨⟨by omega,by omega⟩,?_⟩;exact⟨k+1,b,ln,ld,rfl,rfl,rfl,rfl,⟨by omega,by omega,by exact(aNb (by omega) h34 h37 c2 h45 c3 (aZQ g65 g69 g72)).symm.trans hv⟩,by omega⟩
   ·apply et1
    ·(rw[aJh hd hj,aMZ (by omega) hv];done)
theorem oW (d:aM)(i j k:Nat):fV d i j (k+1)=fV d i j k++[(aKi d i j k).1]:=by simp[fV,List.range_succ]
theorem oX (d:aM)(i j k:Nat):eP d i j (k+1)=(eP d i j k&&(aKi d i j k).2):=by simp[eP,List.range_succ]
theorem aF3 {d:aM}{i j k:Nat}{x a:aB}(ha:jE d i j=a)(hx:jE d i k=x)(h: ¬k=j):aKi d i j k=bA x a:=by rw[aKi,if_neg h,ha,hx]
theorem aF4 {d:aM}{i j k:Nat}{a:aB}(ha:jE d i j=a)(h:k=j):aKi d i j k=bA (aU 1) a:=by rw[aKi,if_pos h,ha];rfl
theorem gO (l p:List aB)(j k:Nat):eT l p j (k+1)=eT l p j k++[(chX l (l.getD j zR) p j k).1]:=by simp[eT,List.range_succ]
theorem iN (l p:List aB)(j k:Nat):fZ l p j (k+1)=(fZ l p j k&&(chX l (l.getD j zR) p j k).2):=by simp[fZ,List.range_succ]
theorem zV {l p:List aB}{j k:Nat}{x c y:aB}(h: ¬k=j)(hx:l[k]? =some x)(hc:l[j]? =some c)(hy:p[k]? =some y):chX l (l.getD j zR) p j k=bZ x c y:=by rw[chX,if_neg h,bG hx,bG hc,bG hy]
theorem zW {l p:List aB}{j k:Nat}{c y:aB}(h:k=j)(hc:l[j]? =some c)(hy:p[k]? =some y):chX l (l.getD j zR) p j k=bZ (aU 0) c y:=by rw[chX,if_pos h,bG hc,bG hy];rfl
theorem lO (d:aM)(i j k:Nat):iH d i j (k+1)=iH d i j k++[aEc d i j k]:=by simp[iH,List.range_succ]
theorem lP (d:aM)(i j k:Nat):iT d i j (k+1)=iT d i j k++[aG5 d i j k]:=by simp[iT,List.range_succ]
theorem lQ (d:aM)(i j k:Nat):iA d i j (k+1)=(iA d i j k&&aN9 d i j k):=by simp[iA,List.range_succ]
theorem aCK {F R C L f g:Bool}(h1:f=(F&&R))(h2:g=(f&&C)):(g&&L)=(F&&(R&&(C&&L))):=by subst h1;subst h2;cases F<;>cases R<;>cases C<;>rfl
theorem aM0 {d:aM}{i j r:Nat}(h:r=i):aEc d i j r=fV d i j d.others.length/\aG5 d i j r=(eL d i j).1/\aN9 d i j r=true:=by rw[aEc,aG5,aN9,if_pos h,if_pos h,if_pos h];exact⟨rfl,rfl,rfl⟩
theorem aXG {d:aM}{i j r:Nat}{p:List aB}{x c l:aB}{row:List aB}(h: ¬r=i)(hp:p=fV d i j d.others.length)(hr:d.table[r]? =some row)(hc:row[j]? =some c)(hx:d.limits[r]? =some x)(hl:(eL d i j).1=l):aEc d i j r=eT row p j d.others.length/\aG5 d i j r=(bZ x c l).1/\aN9 d i j r=(fZ row p j d.others.length&&(bZ x c l).2):=by
 rw[aEc,aG5,aN9,if_neg h,if_neg h,if_neg h,aWz,iM hr hc,bG hx,bG hr,hl,<-hp];exact⟨rfl,rfl,rfl⟩
theorem aEd {d:aM}{i j:Int}(h: ¬((0<=i/\i<d.basic.length)/\0<=j/\j<d.others.length)):bN d i j=(aBZ,false):=by rw[bN,if_neg (fun q=>h q.2)]
theorem aYs {d:aM}{i j:Int}(h:dR d=false):bN d i j=(aBZ,false):=by rw[bN,if_neg (by rw[h];simp)]
theorem lI {d:aM}{i j:Int}(h: ¬((jE d i.toNat j.toNat).num≠0/\nW d i.toNat j.toNat=true/\(aBY d i.toNat j.toNat).2=true)):bN d i j=(aBZ,false):=by
 rw[bN];split
 ·rw[gD,if_neg h]
 rfl
theorem aPm {d:aM}{i j:Int}(h:dR d=true)(hi:0<=i/\i<d.basic.length)(hj:0<=j/\j<d.others.length)(h1:(jE d i.toNat j.toNat).num≠0)(h2:nW d i.toNat j.toNat=true)(h3:(aBY d i.toNat j.toNat).2=true):bN d i j=(uK d i.toNat j.toNat,true):=by rw[bN,if_pos ⟨h,hi,hj⟩,gD,if_pos ⟨h1,h2,h3⟩]
theorem aJk {d:aM}{i j:Nat}(h:dR d=true)(hj:j<d.others.length)(hl:(eL d i j).2=true):aBY d i j=((gL d.value (dY (d.costs.getD j zR) (eL d i j).1).1).1,(dY (d.costs.getD j zR) (eL d i j).1).2&&(gL d.value (dY (d.costs.getD j zR) (eL d i j).1).1).2):=by
 obtain⟨_,_,_,_,_,_,b7,b8⟩:=jG h;exact aRR b8 (aDX b7 hj) (aCI hl)
theorem aUL {α:Type}{l:List α}{i:Nat}{x:α}(h:l[i]? =some x):l.set i x=l:=by
 obtain⟨hi,rfl⟩:=aGL.1 h;simp
theorem aJl {p:Nat->Bool}{k n:Nat}(hk:k<=n)(h:(List.range k).all p=false):(List.range n).all p=false:=by
 cases e:(List.range n).all p with
 | false=>rfl
 | true=>
   rw[aI4] at e;have:(List.range k).all p=true:=aI4.2 fun x hx=>e x (aR2.2 (by have:=aR2.1 hx;omega));rw[this] at h;cases h
theorem aPn {d:aM}{i j r k:Nat}{p:List aB}{f g:Bool}(hf:f=((eP d i j d.others.length&&(eL d i j).2)&&iA d i j r))(hr:r<=d.basic.length)(hp:p=fV d i j d.others.length)(hg:g=(f&&fZ d.costs p j k))(hk:k<=d.others.length)(h:g=false):nW d i j=false:=by
 rw[nW,aSS,<-hp];subst hf;rw[hg] at h;simp only[Bool.and_eq_false_iff] at h ⊢;rcases h with (h | h) | h
 ·exact .inl (.inl h)
 ·exact .inl (.inr (aJl hr h))
 exact .inr (aJl hk h)
theorem aUM {d:aM}{i j r k:Nat}{p:List aB}{f g:Bool}(hf:f=((eP d i j d.others.length&&(eL d i j).2)&&iA d i j r))(hr:r=d.basic.length)(hp:p=fV d i j d.others.length)(hg:g=(f&&fZ d.costs p j k))(hk:k=d.others.length)(h:g=true):nW d i j=true:=by
 rw[nW,aSS,<-hp,<-hr,<-hf,<-hk,<-hg,h]
theorem aHM {d:aM}{i j r:Nat}{f:Bool}(hf:f=((eP d i j d.others.length&&(eL d i j).2)&&iA d i j r))(hr:r<=d.basic.length)(h:f=false):nW d i j=false:=by
 subst hf;rw[nW];simp only[Bool.and_eq_false_iff] at h ⊢;rcases h with h | h
 ·exact .inl (.inl h)
 exact .inl (.inr (aJl hr h))
theorem aHN {d:aM}{i j:Nat}(h:eP d i j d.others.length=false):nW d i j=false:=by
 rw[nW,h];rfl
theorem aM1 {d:aM}{i j:Nat}(h:nW d i j=true):(eL d i j).2=true:=by
 simp only[nW,aCA] at h;exact h.1.1.2
theorem aDZ {d:aM}{i j:Nat}(hi:i<d.basic.length):(iH d i j d.basic.length).set i (fV d i j d.others.length)=iH d i j d.basic.length:=aUL (by simp[iH,hi,aEc])
abbrev jF (a:aB)(b:aB)(c:aB):AV × List (Nat × Rs):=(.tup [.agg [vI ((bZ a b c).1.num),vI ((bZ a b c).1.den)],vB ((bZ a b c).2)],[])
abbrev kL (a:aB)(b:aB)(c:aB):Prop:=Cn 151 [.agg [.int .i64 a.num,.int .i64 a.den],.agg [.int .i64 b.num,.int .i64 b.den],.agg [.int .i64 c.num,.int .i64 c.den]] (jF a b c).1 (jF a b c).2
theorem oY (a b c:aB):kL a b c:=by
 refine cq Tryz.func151 (.br (.fin []) (.lit<| .lit<| .lit<| .br (.fin []) (bJ (uH b c)<| bJ (aDR a ((dY b c).1))<| .br (.fin []) (.fin [])))) (p:=Br (b.num=0) (a.num=((bZ a b c).1.num)/\a.den=((bZ a b c).1.den)/\(true)=((bZ a b c).2)/\True) (Br (c.num=0) (a.num=((bZ a b c).1.num)/\a.den=((bZ a b c).1.den)/\(true)=((bZ a b c).2)/\True) (zF b c/\aJ5 a ((dY b c).1)/\Bb ((dY b c).2) ((((pQ a ((dY b c).1)).1).num)=((bZ a b c).1.num)/\(((pQ a ((dY b c).1)).1).den)=((bZ a b c).1.den)/\((pQ a ((dY b c).1)).2)=((bZ a b c).2)/\True) ((((pQ a ((dY b c).1)).1).num)=((bZ a b c).1.num)/\(((pQ a ((dY b c).1)).1).den)=((bZ a b c).1.den)/\(false)=((bZ a b c).2)/\True)))) (by kernel_rfl) ?_;refine dd (fun g15=>?_) fun g15=>?_
 ·apply et3<;>((rw[bZ,if_pos (.inl (by exact g15))]<;>rfl))
 ·refine dd (fun c0=>?_) fun c0=>?_
  ·apply et3<;>((rw[bZ,if_pos (.inr c0)]<;>rfl))
  ·refine⟨aJ4 b c,aWo a ((dY b c).1),db (fun g35=>?_) fun g35=>?_⟩
   ·apply et3<;>(first|(rw[bZ,if_neg (by rintro(q|q);exact g15 q;exact c0 q)];simp[*];done)|(rw[bZ,if_neg (by rintro(q|q);exact g15 q;exact c0 q)]<;>rfl))
   ·apply et3<;>(first|(rw[bZ,if_neg (by rintro(q|q);exact g15 q;exact c0 q)];simp[*];done)|(rw[bZ,if_neg (by rintro(q|q);exact g15 q;exact c0 q)]<;>rfl))
end Go.Proofs.YtlidmoeecphbmaaGreat
namespace Go.Proofs
open Go.Shelf
namespace YtlidmoeecphbmaaGreat
def Tryz.cloneRats_ren:Go.Shelf.Ren:=⟨fun | 41=>165 | n=>n,fun | 22=>61 | 23=>38 | 4=>4 | n=>n,fun | n=>n⟩
theorem Tryz.cloneRats:Go.Proofs.SlLaysE0.n41 Tryz.prog Tryz.cloneRats_ren:={
 mixed:=by kernel_rfl
 f41:=⟨Tryz.f165.name,by decide,Tryz.func165.trans (congrArg some (by kernel_rfl))⟩
 t4:=Tryz.underlying4
 a4:=Tryz.isAgg4
 z4:=Tryz.sizeOf4
 v4:=Tryz.zeroValue4
 t22:=Tryz.underlying61
 a22:=Tryz.isAgg61
 z22:=Tryz.sizeOf61
 v22:=Tryz.zeroValue61 }
end YtlidmoeecphbmaaGreat
end Go.Proofs
namespace Go.Proofs.YtlidmoeecphbmaaGreat
open Go.ChangeShapes Go.WideShapes Go.ChangeAt Go.RowKit
set_option linter.unusedVariables false
section
variable {P:Program}
theorem aUN {f:FuncId}{args:List Ar}{e k:Nat}{xs:List (List bR)}(hc:kF P f=true)(h: ∀A w (vs:Array Value),(∀b,A b->b<w.heap.size)->pU A w args vs.toList->Calls P f vs w (fun en w' => ∃(v:Value) (F:List Nat),en= .returned v/\qZ w' (.sl e k xs) v F/\F.Nodup/\(∀g∈F,w.heap.size<=g)/\Below w.heap.size w w' /\ ∀g∈F,g<w'.heap.size)):
 rM P f args (.own 0) [(0,.arr e k true xs)]:=by
 refine⟨hc,fun A w vs hA ha=>(h A w vs hA ha).mono fun en w' ⟨v,F,he,ho,hn,hg,hb,hlt⟩=>?_⟩;unfold qZ at ho;obtain⟨css,Fs,r1,r2,r3⟩:=ho;have hpl:(⟨v,v.ownBlock.toList,Fs.flatten⟩:Pl).F=F:=by unfold Pl.F;exact r2.symm
 refine⟨v,fun _=>False,fun x=>if x=0 then some ⟨v,v.ownBlock.toList,Fs.flatten⟩ else none,he,hb,by simp,by simp,fun x r hx=>?_,fun x hx=>?_,fun x x' pl pl' hne hx hx' g hg hg' =>?_,fun x pl hx=>?_,fun x pl hx g hg' =>?_,?_⟩
 ·simp only[bF] at hx;split at hx
  ·rename_i e1;injection hx with hx
   subst hx;exact⟨_,if_pos e1,⟨css,Fs,r1,rfl,rfl,r3⟩⟩
  cases hx
 ·simp only[bF] at hx;split at hx
  ·cases hx
  rename_i e1;exact if_neg e1
 ·simp only at hx hx';split at hx
  ·split at hx'
   ·subst_vars;exact hne rfl
   cases hx'
  cases hx
 ·simp only at hx;split at hx
  ·injection hx with hx
   subst hx;rw[hpl];exact hn
  cases hx
 ·simp only at hx;split at hx
  ·injection hx with hx
   subst hx;rw[hpl] at hg';exact⟨hg g hg',hlt g hg'⟩
  cases hx
 unfold aJ;intro pl hp;simp only[if_true,Option.some.injEq] at hp;subst hp;rfl
end
def aYt (x:aB):List Value:=[.int .i64 x.num,.int .i64 x.den]
theorem aG7 {K:Nat->Prop}{w:World}: ∀{l:List aB} {css:List (List Value)},eV K w 2 (l.map aA) css->css=l.map aYt
 | [],css,h=>h
 | x::l,css,⟨c,css',e,h1,h2,h3⟩=>by
   subst e;obtain⟨v,vs,e1,m1,v2,vs2,e2,m2,m3⟩:=h2;unfold iU at m1 m2;rw[aG7 h3,e1,e2,m1,m2,show vs2= [] from m3];rfl
theorem aM2 {w:World}: ∀(l:List aB),cV w 2 (l.map aA) (l.map aYt) (l.map fun _=>[])
 | []=>by unfold cV;exact⟨rfl,rfl⟩
 | x::l=>by
   rw[aLz,aLz,aLz];unfold cV;refine⟨_,_,_,_,rfl,rfl,rfl,?_,aM2 l⟩;have h1:qZ w (.int .i64 x.num) (.int .i64 x.num) []:=by unfold qZ;exact⟨rfl,rfl⟩
   have h2:qZ w (.int .i64 x.den) (.int .i64 x.den) []:=by unfold qZ;exact⟨rfl,rfl⟩
   exact oN (F1:=[]) (F2:=[]) h1 (oN (F1:=[]) (F2:=[]) h2 aOJ)
theorem aPo: ∀l:List aB,(l.map aYt).flatten.length=l.length*2
 | []=>rfl
 | x::l=>by simp only[aLz,aOc,aQT,aQP,aPo l,aYt,List.length_nil];omega
theorem aD0 (l:List aB)(h0:0<l.length)(hl:l.length<=1048576):rM Tryz.prog 165 [.one (.sl 38 2 (l.map aA))] (.own 0) [(0,.arr 38 2 true (l.map aA))]:=
 aUN (by kernel_rfl) fun A w vs hA ha=>by
  obtain⟨v,vs',e,hv,hv2⟩:=ha;simp only[aNy] at hv;unfold iU at hv;obtain⟨a,c,rfl,h1,h2,h3⟩:=hv;obtain⟨css,hr,hne⟩:=gV.vals h3;obtain⟨b,off,rfl,hcell⟩:=hne (by intro q;rw[List.map_eq_nil_iff] at q;rw[q] at h0;exact absurd h0 (Nat.lt_irrefl 0));have ev:vs= #[.slice (some ⟨b,off,none⟩) (l.map aA).length c]:=by apply Array.ext';rw[e,show vs' = [] from hv2]
  have hcs:=aG7 hr;have hone:=aC5 hr
  have hlen:css.flatten.length=(l.map aA).length*2:=by
   rw[hcs,aPo,aAH]
  rw[ev];have hT:gU Tryz.prog 38=some (true,2,16,.agg #[.int .i64 0,.int .i64 0]):=by kernel_rfl
  have hI:=gP hT w;refine(AnyE.slices_Clone Tryz.cloneRats _ _ 2 16 hI.2.2.2.2.2.1 hI.2.2.2.2.2.2.2 hI.2.2.2.2.2.2.1 hI.2.2.2.2.1 rfl (by omega) (fun w=>(gP hT w).2.1) b off _ c css.flatten w hlen (by simp[maxLen];omega) (by simp;omega) (fun j u hj=>by have:=hcell j u hj;rwa [Nat.add_zero] at this) hone).mono fun e w' ⟨v',he,ho,_,hb⟩=>?_;refine⟨v',v'.ownBlock.toList,he,?_,?_,fun g hg=>(xS ho g hg).1,hb,fun g hg=>(xS ho g hg).2⟩
  ·unfold qZ;refine⟨css,l.map fun _=>[],aEm ho (fun g hg=>aDB g),?_,?_⟩
   ·simp
   rw[hcs];exact aM2 l
  cases v'.ownBlock<;>simp
end Go.Proofs.YtlidmoeecphbmaaGreat
namespace Go.Proofs.YtlidmoeecphbmaaGreat
open Go.ChangeShapes Go.WideShapes Go.ChangeAt Go.RowKit
set_option linter.unusedVariables false
set_option linter.unusedSimpArgs false
set_option maxRecDepth 100000
set_option maxHeartbeats 4000000
abbrev aB1 (f:Bool)(a:aB)(b:aB):List AV × List (Nat × Rs) × AV × List (Nat × Rs):=([.ptr 0 0,.agg [vI a.num,vI a.den],.agg [vI b.num,vI b.den]],[(0,.box 201 [vB f])],.agg [vI ((bA a b).1.num),vI ((bA a b).1.den)],[(0,.box 201 [vB (f || !(bA a b).2)])])
abbrev aJm (f:Bool)(a:aB)(b:aB):Prop:=Cm 166 (aB1 f a b).1 (aB1 f a b).2.1 (aB1 f a b).2.2.1 (aB1 f a b).2.2.2
theorem aYu (f:Bool)(a b:aB):aJm f a b:=by
 refine cqx Tryz.func166 (bJ (zD a b)<| .br (.fin [(0,0)]) (.fin [(0,0)])) (p:=aDP a b/\Bb (f) (((bA a b).1.num)=((bA a b).1.num)/\((bA a b).1.den)=((bA a b).1.den)/\(true)=(f || !(bA a b).2)/\True) (((bA a b).1.num)=((bA a b).1.num)/\((bA a b).1.den)=((bA a b).1.den)/\(!((bA a b).2))=(f || !(bA a b).2)/\True)) (by kernel_rfl) ?_;refine⟨aP1 a b,db (fun g20=>?_) fun g20=>?_⟩
 ·refine⟨rfl,rfl,?_,trivial⟩
  ·(rw[g20]<;>rfl)
 ·refine⟨rfl,rfl,?_,trivial⟩
  ·(rw[g20]<;>rfl)
abbrev vR (f:Bool)(a:aB)(b:aB)(c:aB):List AV × List (Nat × Rs) × AV × List (Nat × Rs):=([.ptr 0 0,.agg [vI a.num,vI a.den],.agg [vI b.num,vI b.den],.agg [vI c.num,vI c.den]],[(0,.box 201 [vB f])],.agg [vI ((eE a b c).1.num),vI ((eE a b c).1.den)],[(0,.box 201 [vB (f || !(eE a b c).2)])])
abbrev aEe (f:Bool)(a:aB)(b:aB)(c:aB):Prop:=Cm 168 (vR f a b c).1 (vR f a b c).2.1 (vR f a b c).2.2.1 (vR f a b c).2.2.2
theorem aSX (f:Bool)(a b c:aB):aEe f a b c:=by
 refine cqx Tryz.func168 (.br (.fin [(0,0)]) (.lit<| .lit<| .lit<| .br (.fin [(0,0)]) (bJ (aDO b c)<| bJ (aDN a ((dY b c).1))<| .br (.fin [(0,0)]) (.lit<| .lit<| .br (.fin [(0,0)]) (.fin [(0,0)]))))) (p:=Br (b.num=0) (a.num=((eE a b c).1.num)/\a.den=((eE a b c).1.den)/\(f)=(f || !(eE a b c).2)/\True) (Br (c.num=0) (a.num=((eE a b c).1.num)/\a.den=((eE a b c).1.den)/\(f)=(f || !(eE a b c).2)/\True) (aJ3 b c/\aJ2 a ((dY b c).1)/\Bb (f) ((((gL a ((dY b c).1)).1).num)=((eE a b c).1.num)/\(((gL a ((dY b c).1)).1).den)=((eE a b c).1.den)/\(true)=(f || !(eE a b c).2)/\True) (Nr ((dY b c).2) ((((gL a ((dY b c).1)).1).num)=((eE a b c).1.num)/\(((gL a ((dY b c).1)).1).den)=((eE a b c).1.den)/\(true)=(f || !(eE a b c).2)/\True) ((((gL a ((dY b c).1)).1).num)=((eE a b c).1.num)/\(((gL a ((dY b c).1)).1).den)=((eE a b c).1.den)/\(!((gL a ((dY b c).1)).2))=(f || !(eE a b c).2)/\True))))) (by kernel_rfl) ?_;refine dd (fun g16=>?_) fun g16=>?_
 ·apply et3<;>((rw[eE,if_pos (.inl g16)]<;>(simp;done)))
 ·refine dd (fun c0=>?_) fun c0=>?_
  ·apply et3<;>((rw[eE,if_pos (.inr c0)]<;>(simp;done)))
  ·have hP:eE a b c=((gL a (dY b c).1).1,(dY b c).2&&(gL a (dY b c).1).2):=by rw[eE,if_neg (by rintro(q | q);exact g16 q;exact c0 q)]
   refine⟨aWm b c,aWl a ((dY b c).1),db (fun g39=>?_) fun g39=>?_⟩
   ·apply et3<;>((rw[hP]<;>(simp[*];done)))
   ·refine dm (fun g43=>?_) fun g43=>?_
    ·apply et3<;>((rw[hP]<;>(simp[*];done)))
    ·apply et3<;>((rw[hP]<;>(simp[*];done)))
abbrev qQ (a:aB):Prop:=Cn 108 [.agg [.int .i64 a.num,.int .i64 a.den]] (.agg [vI ((eI a).num),vI ((eI a).den)]) []
theorem aB2 (a:aB)(ha: -9223372036854775807<=a.num/\a.num<=9223372036854775807):qQ a:=by
 refine cq Tryz.func108 (.fin []) (p:=bK (-a.num)/\(-a.num)=((eI a).num)/\a.den=((eI a).den)/\True) (by kernel_rfl) ?_;refine⟨by exact⟨by omega,by omega⟩,?_,?_,trivial⟩<;>(rfl)
theorem bA1 (a c:aB): -9223372036854775807<=(bA a c).1.num/\(bA a c).1.num<=9223372036854775807:=by
 cases e:(bA a c).2 with
 | true=>have:=cY (aCI e);omega
 | false=>rw[aP6 e];exact⟨by decide,by decide⟩
theorem bA2 {α:Type}{A l:List α}{k:Nat}(h:A.length=k):(A++l.drop k)[k]? =l[k]? :=by
 subst h;rw[aNW (aUX _)];simp[List.getElem?_drop]
theorem aEf {α:Type}{A l:List α}{k:Nat}{y:α}(h:A.length=k)(hk:k<l.length):(A++l.drop k).set k y=(A++[y])++l.drop (k+1):=by
 subst h;rw[List.drop_eq_getElem_cons hk,List.set_append_right _ _ (aUX _),Nat.sub_self,List.set_cons_zero,aMd];rfl
theorem aSY {α:Type}{A l:List α}{k:Nat}(h:l.length<=k):A++l.drop k=A:=by rw[List.drop_eq_nil_of_le h,aZC]
theorem nt2 (A B:Bool):(!A || !B)= !(A&&B):=by cases A<;>cases B<;>rfl
theorem nt3 (f A B:Bool):((f || !A) || !B)=(f || !(A&&B)):=by cases f<;>cases A<;>cases B<;>rfl
theorem aF5 (l p:List aB)(j n:Nat):(eT l p j n).length=n:=by simp[eT]
theorem aXH {l p:List aB}{j k:Nat}{x c y:aB}(h: ¬k=j)(hx:l[k]? =some x)(hc:l.getD j zR=c)(hy:p[k]? =some y):chX l (l.getD j zR) p j k=eE x (eI c) y:=by rw[chX,if_neg h,bG hx,hc,bG hy,aMS]
theorem aXI {l p:List aB}{j k:Nat}{c a:aB}(h:k=j)(hc:l.getD j zR=c)(hy:p.getD j zR=(bA aGn a).1)(vc:bC c=true)(va:bC a=true)(h0: ¬a.num=0):chX l (l.getD j zR) p j k=(eI (bA c a).1,(bA c a).2):=by
 rw[chX,if_pos h,hc,h,hy];exact aWx vc va h0
theorem aXJ {d:aM}{i j n:Nat}{a:aB}(hj:j<n)(ha:jE d i j=a):(fV d i j n).getD j zR=(bA aGn a).1:=by
 have e:(fV d i j n)[j]? =some (aKi d i j j).1:=by rw[fV,aZH,List.getElem?_range hj];rfl
 rw[bG e,aKi,if_pos rfl,ha]
abbrev oI (l:List aB)(p:List aB)(a:aB)(j:Int)(f:Bool):List AV × List (Nat × Rs) × AV × List (Nat × Rs):=([.p none (.sl 38 2 (l.map aA)),.rp none [.int .i64 j],.ptr 0 0,.rp none [.int .i64 a.num,.int .i64 a.den],.rp none [.sl 38 2 (p.map aA)]],[(0,.box 199 [.ptr 1 0]),(1,.box 201 [vB f])],.own 2,[(0,.box 199 [.ptr 1 0]),(1,.box 201 [vB (f || !fZ l p j.toNat l.length)]),(2,.arr 38 2 true ((eT l p j.toNat l.length).map aA))])
abbrev zH (l:List aB)(p:List aB)(a:aB)(j:Int)(f:Bool):Prop:=Cm 167 (oI l p a j f).1 (oI l p a j f).2.1 (oI l p a j f).2.2.1 (oI l p a j f).2.2.2
theorem aJn (l p:List aB)(a:aB)(j:Int)(f:Bool)(hj:0<=j/\j<l.length)(hl:l.length<=15)(hp:p.length=l.length)(hv: ∀x∈l,bC x=true)(hva:bC a=true)(hnz: ¬a.num=0)(hpj:p.getD j.toNat zR=(bA aGn a).1):zH l p a j f:=by
 refine cqx Tryz.func167 (.elem _ aA l (fun e11=> .call (.own 0) [(0,.arr 38 2 true (l.map aA))]<| .len l.length<| .loop (Nat × (List aB) × Bool) (Q3 Nat (List aB) Bool) ([0,8]++rg 17 30) [1,1400] (fun yy0=>[(17,vI (yy0.1:Int)),(0,.own 1400)]) (fun yy0=>[(1400,some (.arr 38 2 true (yy0.2.1.map aA))),(1,some (.box 201 [vB yy0.2.2]))]) (fun yy0=>yy0.1<=l.length/\yy0.2.1=eT l p j.toNat yy0.1++l.drop yy0.1/\yy0.2.2=(f || !fZ l p j.toNat yy0.1)/\yy0.2.1.length=l.length) (fun yy0=>l.length - yy0.1) (fun yy0=> .br (.br (fN (aB1 yy0.2.2 e11 a) [(0,1)]<| .call (.agg [vI ((eI ((bA e11 a).1)).num),vI ((eI ((bA e11 a).1)).den)]) []<| .len yy0.2.1.length<| .set aB aA yy0.2.1 (fun s7_8=>(eI ((bA e11 a).1))) (fun s7_8=> .back [(1,1),(1400,1400)])) (.len yy0.2.1.length<| .elem _ aA yy0.2.1 (fun e37=> .call (.agg [vI ((eI e11).num),vI ((eI e11).den)]) []<| .elem _ aA p (fun e42=>fN (vR yy0.2.2 e37 (eI e11) e42) [(0,1)]<| .len yy0.2.1.length<| .set aB aA yy0.2.1 (fun s8_15=>((eE e37 (eI e11) e42).1)) (fun s8_15=> .back [(1,1),(1400,1400)]))))) (.fin [(0,0),(1,1),(2,1400)])))) (p:=0<=j/\Em aA l ((j).toNat) fun e11=>rM Tryz.prog 165 [.one (.sl 38 2 (l.map aA))] (.own 0) [(0,.arr 38 2 true (l.map aA))]/\(Lm aA l/\((∃(k:Nat) (o:List aB) (g:Bool),0=(k:Int)/\l.map aA=o.map aA/\(f)=g/\k<=l.length/\o=eT l p j.toNat k++l.drop k/\g=(f || !fZ l p j.toNat k)/\o.length=l.length)/\ ∀(k:Nat) (o:List aB) (g:Bool),(k<=l.length/\o=eT l p j.toNat k++l.drop k/\g=(f || !fZ l p j.toNat k)/\o.length=l.length)->Br ((k:Int)<(l.length:Int)) (Br ((k:Int)=j) (aJm g e11 a/\e11.num=e11.num/\e11.den=e11.den/\a.num=a.num/\a.den=a.den/\(g)=g/\(qQ ((bA e11 a).1)/\(0<=(k:Int)/\Lm aA o/\(k:Int)<(o.length:Int)/\(o.map aA=o.map aA/\k<o.length/\ ∀s7_8,o[k]? =some s7_8->fT (aA s7_8)=true/\0+2<=(aA s7_8).length/\(aA s7_8).take 0++[.int .i64 ((eI ((bA e11 a).1)).num),.int .i64 ((eI ((bA e11 a).1)).den)]++(aA s7_8).drop (0+2)=aA (eI ((bA e11 a).1))/\bK ((k:Int)+1)/\ ∃(k' :Nat) (o' :List aB) (g' :Bool),((k:Int)+1)=(k' :Int)/\(o.set k (eI ((bA e11 a).1))).map aA=o'.map aA/\(g || !(bA e11 a).2)=g' /\(k' <=l.length/\o' =eT l p j.toNat k' ++l.drop k' /\g' =(f || !fZ l p j.toNat k')/\o'.length=l.length)/\l.length - k' <l.length - k)))) (0<=(k:Int)/\Lm aA o/\(k:Int)<(o.length:Int)/\Em aA o k fun e37=>qQ e11/\(0<=(k:Int)/\Em aA p k fun e42=>aEe g e37 (eI e11) e42/\e37.num=e37.num/\e37.den=e37.den/\((eI e11).num)=((eI e11).num)/\((eI e11).den)=((eI e11).den)/\e42.num=e42.num/\e42.den=e42.den/\(g)=g/\(0<=(k:Int)/\Lm aA o/\(k:Int)<(o.length:Int)/\(o.map aA=o.map aA/\k<o.length/\ ∀s8_15,o[k]? =some s8_15->fT (aA s8_15)=true/\0+2<=(aA s8_15).length/\(aA s8_15).take 0++[.int .i64 ((eE e37 (eI e11) e42).1.num),.int .i64 ((eE e37 (eI e11) e42).1.den)]++(aA s8_15).drop (0+2)=aA ((eE e37 (eI e11) e42).1)/\bK ((k:Int)+1)/\ ∃(k' :Nat) (o' :List aB) (g' :Bool),((k:Int)+1)=(k' :Int)/\(o.set k ((eE e37 (eI e11) e42).1)).map aA=o'.map aA/\(g || !(eE e37 (eI e11) e42).2)=g' /\(k' <=l.length/\o' =eT l p j.toNat k' ++l.drop k' /\g' =(f || !fZ l p j.toNat k')/\o'.length=l.length)/\l.length - k' <l.length - k))))) ((g)=(f || !fZ l p j.toNat l.length)/\o.map aA=(eT l p j.toNat l.length).map aA/\True)))) (by kernel_rfl) ?_;refine⟨by omega,rfl,by omega,fun e11 h11=>?_⟩;have hc:l.getD j.toNat zR=e11:=bG h11;have hcv:=hv _ (aDd h11);have hcb:=cY hcv;refine⟨aD0 l (by omega) (by omega),aAH _,⟨0,l,f,rfl,rfl,rfl,aDB _,rfl,by simp[fZ],rfl⟩,fun k o g ⟨hk,ho,hg,hL⟩=>?_⟩;refine dd (fun c0=>?_) fun c0=>?_
 ·refine dd (fun c1=>?_) fun c1=>?_
  ·refine⟨aYu g e11 a,rfl,rfl,rfl,rfl,rfl,aB2 ((bA e11 a).1) (by exact bA1 _ _),by omega,aAH _,by omega,rfl,by omega,fun s7_8 hs7_8=>⟨rfl,aEP rfl,rfl,?_⟩⟩;refine⟨⟨by omega,by omega⟩,?_⟩;exact⟨k+1,_,g || !(bA e11 a).2,rfl,rfl,rfl,⟨by omega,by (rw[ho,aEf (aF5 _ _ _ _) (by omega),gO,aXI (by omega) hc hpj hcv hva hnz]<;>rfl),by (rw[hg,nt3,iN,aXI (by omega) hc hpj hcv hva hnz]<;>rfl),by rw[aKb];exact hL⟩,by omega⟩
  ·refine⟨by omega,aAH _,by omega,rfl,by omega,fun e37 h37=>?_⟩;have w37:l[k]? =some e37:=by rw[<-bA2 (A:=eT l p j.toNat k) (l:=l) (aF5 l p j.toNat k),<-ho];exact h37
   refine⟨aB2 e11 (by omega),by omega,rfl,by omega,fun e42 h42=>?_⟩;refine⟨aSX g e37 (eI e11) e42,rfl,rfl,rfl,rfl,rfl,rfl,rfl,by omega,aAH _,by omega,rfl,by omega,fun s8_15 hs8_15=>⟨rfl,aEP rfl,rfl,?_⟩⟩;refine⟨⟨by omega,by omega⟩,?_⟩;exact⟨k+1,_,g || !(eE e37 (eI e11) e42).2,rfl,rfl,rfl,⟨by omega,by (rw[ho,aEf (aF5 _ _ _ _) (by omega),gO,aXH (by omega) w37 hc h42]<;>rfl),by (rw[hg,nt3,iN,aXH (by omega) w37 hc h42]<;>rfl),by rw[aKb];exact hL⟩,by omega⟩
 ·apply et2<;>(first|(rw[hg,show k=l.length by omega];done)|(rw[ho,show k=l.length by omega,aSY (aUX _)];done))
theorem bA3 {d:aM}{i j:Nat}(h:(jE d i j).num=0):gD d i j=(aBZ,false):=by rw[gD,if_neg (fun q=>q.1 h)]
theorem aYv {d:aM}{i j:Nat}(h:(!((nW d i j)&&(aBY d i j).2))=true):gD d i j=(aBZ,false):=by
 rw[gD,if_neg];rintro⟨_,h1,h2⟩;rw[h1,h2] at h;cases h
theorem aXK {d:aM}{i j:Nat}(h0: ¬(jE d i j).num=0)(h:(!((nW d i j)&&(aBY d i j).2))=false):gD d i j=(uK d i j,true):=by
 rw[gD,if_pos];rw[Bool.not_eq_false',aCA] at h;exact⟨h0,h.1,h.2⟩
theorem aXL (F R C V:Bool):((!(F&&R) || !C) || !V)= !(((F&&R)&&C)&&V):=by cases F<;>cases R<;>cases C<;>cases V<;>rfl
theorem aPp (F R C L:Bool):((!(F&&R) || !C) || !L)= !(F&&(R&&(C&&L))):=by cases F<;>cases R<;>cases C<;>cases L<;>rfl
theorem aD1 (d:aM)(i j r:Nat):(iT d i j r).length=r:=by simp[iT]
theorem aXM {d:aM}{i j r:Nat}{p:List aB}{x c l:aB}{row:List aB}(h: ¬r=i)(hp:p=fV d i j d.others.length)(hr:d.table[r]? =some row)(hn:row.length=d.others.length)(hc:row[j]? =some c)(hx:d.limits[r]? =some x)(hl:(eL d i j).1=l):aEc d i j r=eT row p j row.length/\aG5 d i j r=(eE x (eI c) l).1/\aN9 d i j r=(fZ row p j row.length&&(eE x (eI c) l).2):=by
 rw[aMS,hn];exact aXG h hp hr hc hx hl
end Go.Proofs.YtlidmoeecphbmaaGreat
