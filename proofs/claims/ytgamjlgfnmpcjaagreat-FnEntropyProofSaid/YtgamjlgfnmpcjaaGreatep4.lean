/-
  Contracts and plain laws, joined: part 5.
-/
import Derived.Test.YtgamjlgfnmpcjaaGreatep3
namespace Go.Proofs.YtgamjlgfnmpcjaaGreat
open Go.ChangeShapes Go.WideShapes Go.ChangeAt Go.RowKit
set_option linter.all false
set_option maxRecDepth 100000
set_option maxHeartbeats 4000000
def anL:List E:=[⟨#[]⟩,⟨#[119]⟩,⟨#[114]⟩]
def lW (l:Z)(u:Cu):Int × Cu:=aC l (dO l u).2 14
def noV (a:cT):cT:=⟨a.name,[]⟩
def aG1 (x:Int)(a:cT):cT:=⟨a.name,a.vars.set 0 x⟩
def kW (l:Z)(u:Cu):aV × Cu:=
 if (lW l u).1=0 then (⟨(bZ l (lW l u).2 [0,5,(dO l u).1.g+1,9223372036854775807]).1,(dO l u).1.k⟩,(bZ l (lW l u).2 [0,5,(dO l u).1.g+1,9223372036854775807]).2)
 else if (lW l u).1=1 then (⟨(dO l u).1.g,(dO l u).1.k++[⟨(dT l (lW l u).2 anL).1,[0]⟩]⟩,(dT l (lW l u).2 anL).2)
 else if (lW l u).1=2 then (⟨(dO l u).1.g,vC (dO l u).1.k 0 noV⟩,(lW l u).2)
 else if (lW l u).1=3 then (⟨(dO l u).1.g,vC (dO l u).1.k 0 (aG1 (bZ l (lW l u).2 [-1,4,1]).1)⟩,(bZ l (lW l u).2 [-1,4,1]).2)
 else ((dO l u).1,(lW l u).2)
def aFa {l:Z}{u:Cu}(h:(lW l u).1=0):kW l u=(⟨(bZ l (lW l u).2 [0,5,(dO l u).1.g+1,9223372036854775807]).1,(dO l u).1.k⟩,(bZ l (lW l u).2 [0,5,(dO l u).1.g+1,9223372036854775807]).2):=by rw[kW,if_pos h]
def aFb {l:Z}{u:Cu}(h:(lW l u).1=1):kW l u=(⟨(dO l u).1.g,(dO l u).1.k++[⟨(dT l (lW l u).2 anL).1,[0]⟩]⟩,(dT l (lW l u).2 anL).2):=by rw[kW,if_neg aGR,if_pos h]
def aFc {l:Z}{u:Cu}{a:cT}(h:(lW l u).1=2)(ha:(dO l u).1.k[0]? =some a):kW l u=(⟨(dO l u).1.g,(dO l u).1.k.set 0 ⟨a.name,[]⟩⟩,(lW l u).2):=by
 rw[kW,if_neg aGR,if_neg aGR,if_pos h,FE ha];rfl
def aFd {l:Z}{u:Cu}{a:cT}(h:(lW l u).1=3)(ha:(dO l u).1.k[0]? =some a):kW l u=(⟨(dO l u).1.g,(dO l u).1.k.set 0 ⟨a.name,a.vars.set 0 (bZ l (lW l u).2 [-1,4,1]).1⟩⟩,(bZ l (lW l u).2 [-1,4,1]).2):=by
 rw[kW,if_neg aGR,if_neg aGR,if_neg aGR,if_pos h,FE ha];rfl
def aFe {l:Z}{u:Cu}(h0: ¬(lW l u).1=0)(h1: ¬(lW l u).1=1)(h2: ¬(lW l u).1=2)(h3: ¬(lW l u).1=3):kW l u=((dO l u).1,(lW l u).2):=by rw[kW,if_neg h0,if_neg h1,if_neg h2,if_neg h3]
def aG2 (l:Z)(u:Cu):iN (kW l u).1<=40:=by
 have h:=aDO (PB l u);have e: ∀q:aV,iN q=jT q.k:=fun _=>rfl;have e1: ∀a:cT,pS a=a.name.size+a.vars.length:=fun _=>rfl;rw[e] at h;have hs:(dT l (lW l u).2 anL).1.size<=1:=rS l _ (by decide) (by decide);obtain⟨a,ha⟩:=fK (l:=(dO l u).1.k) (k:=0) (by have:=(eJ (PB l u)).2.1;omega);have hm:=F6 ha;by_cases h0:(lW l u).1=0
 ·rw[aFa h0,e];dsimp only;omega
 by_cases h1:(lW l u).1=1
 ·have e2:jT ((dO l u).1.k++[⟨(dT l (lW l u).2 anL).1,[0]⟩])=jT (dO l u).1.k+1+pS ⟨(dT l (lW l u).2 anL).1,[0]⟩:=Cb _ _ _;rw[aFb h1,e];dsimp only;rw[e2,e1];dsimp only;simp only[aEb,List.length_nil];omega
 have hset: ∀b:cT,pS b<=pS a->jT ((dO l u).1.k.set 0 b)<=jT (dO l u).1.k:=fun b hb=>by
  cases hq:(dO l u).1.k with
  | nil=>exact aFC _
  | cons x xs=>
    rw[hq] at ha;simp only[List.getElem?_cons_zero,Option.some.injEq] at ha;subst ha;have e4:jT (b::xs)=xs.length+1+(pS b+(xs.map pS).sum):=rfl;have e5:jT (x::xs)=xs.length+1+(pS x+(xs.map pS).sum):=rfl;rw[List.set_cons_zero,e4,e5];omega
 by_cases h2:(lW l u).1=2
 ·have:=hset ⟨a.name,[]⟩ (by rw[e1,e1];dsimp only;simp only[List.length_nil];omega);rw[aFc h2 ha,e];dsimp only;omega
 by_cases h3:(lW l u).1=3
 ·have:=hset ⟨a.name,a.vars.set 0 (bZ l (lW l u).2 [-1,4,1]).1⟩ (by rw[e1,e1];dsimp only;rw[aDF];exact aFC _);rw[aFd h3 ha,e];dsimp only;omega
 rw[aFe h0 h1 h2 h3,e];dsimp only;omega
abbrev yC (l:Z)(u:Cu):List AV × aGJ × AV × aGJ:=([.ptr 0 0],[(0,.box 102 [.p none (.sl 5 1 (l.map bQ)),vI (u.i:Int),vI u.h])],.agg [vI ((kW l u).1.g),.p none (.sl 116 2 ((kW l u).1.k.map bA))],[(0,.box 102 [.p none (.sl 5 1 (l.map bQ)),vI (((kW l u).2.i:Nat):Int),vI ((kW l u).2.h)])])
abbrev KX (l:Z)(u:Cu):Prop:=Cm 68 (yC l u).1 (yC l u).2.1 (yC l u).2.2.1 (yC l u).2.2.2
def Zp (l:Z)(u:Cu)(hl:l.length<=1048576):KX l u:=by
 refine Ls Tryz.func68 (bH (Cd l u) [(0,0)]<| bH (dX l ((dO l u).2) (14:Int)) [(0,0)]<| .br (bH (iK l ((lW l u).2) ([(0:Int),(5:Int),((dO l u).1.g)+1,(9223372036854775807:Int)]:Z)) [(0,0),(1,1400)]<| .stlb 11 300<| .fin [(0,0)]) (.br (bH (mC l ((lW l u).2) ([(⟨#[]⟩:E),(⟨#[119]⟩:E),(⟨#[114]⟩:E)]:List E)) [(0,0),(1,2200)]<| .appx cT bA ((dO l u).1.k) (⟨(dT l ((lW l u).2) ([(⟨#[]⟩:E),(⟨#[119]⟩:E),(⟨#[114]⟩:E)]:List E)).1,([(0:Int)]:Z)⟩:cT)<| .stlb 11 300<| .fin [(0,0)]) (.br (.shal 8 501<| .len ((dO l u).1.k.length)<| .setr cT bA ((dO l u).1.k) (fun s8_4=>(⟨s8_4.name,([]:Z)⟩:cT)) (fun s8_4=> .stlb 11 300<| .fin [(0,0)])) (.br (.split 10 501 0 1 4107 cT bA ((dO l u).1.k) (fun b4107=> .len ((dO l u).1.k.length)<| bH (iK l ((lW l u).2) ([(-1:Int),(4:Int),(1:Int)]:Z)) [(0,0),(1,4300)]<| .len b4107.vars.length<| .set Int intD b4107.vars (fun s10_9=>(bZ l ((lW l u).2) ([(-1:Int),(4:Int),(1:Int)]:Z)).1) (fun s10_9=> .join 11 501 4107 cT bA ((dO l u).1.k) (fun a4107=>(⟨a4107.name,b4107.vars.set 0 ((bZ l ((lW l u).2) ([(-1:Int),(4:Int),(1:Int)]:Z)).1)⟩:cT)) (fun a4107=> .stlb 11 300<| .fin [(0,0)])))) (.stlb 11 300<| .fin [(0,0)]))))) (p:=PC l u/\aGI l u ((eQ l ((dO l u).2) (14:Int)/\(14:Int)=14/\aGI l ((dO l u).2) (Br (((lW l u).1)=0) (bO (((dO l u).1.g)+1)/\kK l ((lW l u).2) ([(0:Int),(5:Int),((dO l u).1.g)+1,(9223372036854775807:Int)]:Z)/\aGI l ((lW l u).2) ([[.int .i64 (0:Int)],[.int .i64 (5:Int)],[.int .i64 (((dO l u).1.g)+1)],[.int .i64 (9223372036854775807:Int)]]=([(0:Int),(5:Int),((dO l u).1.g)+1,(9223372036854775807:Int)]:Z).map intD/\((bZ l ((lW l u).2) ([(0:Int),(5:Int),((dO l u).1.g)+1,(9223372036854775807:Int)]:Z)).1)=((kW l u).1.g)/\(dO l u).1.k.map bA=(kW l u).1.k.map bA/\aGH l ((bZ l ((lW l u).2) ([(0:Int),(5:Int),((dO l u).1.g)+1,(9223372036854775807:Int)]:Z)).2) ((kW l u).2) (True))) (Br (((lW l u).1)=1) (pX l ((lW l u).2) ([(⟨#[]⟩:E),(⟨#[119]⟩:E),(⟨#[114]⟩:E)]:List E)/\aGI l ((lW l u).2) ([[.str (⟨#[]⟩:E)],[.str (⟨#[119]⟩:E)],[.str (⟨#[114]⟩:E)]]=([(⟨#[]⟩:E),(⟨#[119]⟩:E),(⟨#[114]⟩:E)]:List E).map iG/\(dO l u).1.k.map bA=(dO l u).1.k.map bA/\((dT l ((lW l u).2) ([(⟨#[]⟩:E),(⟨#[119]⟩:E),(⟨#[114]⟩:E)]:List E)).1)=((⟨(dT l ((lW l u).2) ([(⟨#[]⟩:E),(⟨#[119]⟩:E),(⟨#[114]⟩:E)]:List E)).1,([(0:Int)]:Z)⟩:cT).name)/\[[.int .i64 (0:Int)]]=((⟨(dT l ((lW l u).2) ([(⟨#[]⟩:E),(⟨#[119]⟩:E),(⟨#[114]⟩:E)]:List E)).1,([(0:Int)]:Z)⟩:cT).vars).map intD/\((dO l u).1.k.length+1)*40<=140737488355328/\((dO l u).1.g)=((kW l u).1.g)/\(((dO l u).1.k)++[(⟨(dT l ((lW l u).2) ([(⟨#[]⟩:E),(⟨#[119]⟩:E),(⟨#[114]⟩:E)]:List E)).1,([(0:Int)]:Z)⟩:cT)]).map bA=(kW l u).1.k.map bA/\aGH l ((dT l ((lW l u).2) ([(⟨#[]⟩:E),(⟨#[119]⟩:E),(⟨#[114]⟩:E)]:List E)).2) ((kW l u).2) (True))) (Br (((lW l u).1)=2) (0<=(0:Int)/\Lm bA ((dO l u).1.k)/\0<(((dO l u).1.k.length:Nat):Int)/\((dO l u).1.k.map bA=(dO l u).1.k.map bA/\0<(dO l u).1.k.length/\ ∀s8_4,((dO l u).1.k)[0]? =some s8_4->1+1<=(bA s8_4).length/\(bA s8_4).take 1++((bA (⟨s8_4.name,([]:Z)⟩:cT)).drop 1).take 1++(bA s8_4).drop (1+1)=bA (⟨s8_4.name,([]:Z)⟩:cT)/\(⟨s8_4.name,([]:Z)⟩:cT).vars.map intD= []/\((dO l u).1.g)=((kW l u).1.g)/\((dO l u).1.k.set 0 (⟨s8_4.name,([]:Z)⟩:cT)).map bA=(kW l u).1.k.map bA/\aGH l ((lW l u).2) ((kW l u).2) (True))) (Br (((lW l u).1)=3) ((dO l u).1.k.map bA=(dO l u).1.k.map bA/\0<(dO l u).1.k.length/\ ∀b4107,((dO l u).1.k)[0]? =some b4107->0<=(0:Int)/\Lm bA ((dO l u).1.k)/\0<(((dO l u).1.k.length:Nat):Int)/\(0=0/\(kK l ((lW l u).2) ([(-1:Int),(4:Int),(1:Int)]:Z)/\aGI l ((lW l u).2) ([[.int .i64 (-1:Int)],[.int .i64 (4:Int)],[.int .i64 (1:Int)]]=([(-1:Int),(4:Int),(1:Int)]:Z).map intD/\(0<=(0:Int)/\Lm intD b4107.vars/\0<(b4107.vars.length:Int)/\(b4107.vars.map intD=b4107.vars.map intD/\0<b4107.vars.length/\ ∀s10_9,b4107.vars[0]? =some s10_9->iU (intD s10_9)=true/\0+1<=(intD s10_9).length/\(intD s10_9).take 0++[.int .i64 ((bZ l ((lW l u).2) ([(-1:Int),(4:Int),(1:Int)]:Z)).1)]++(intD s10_9).drop (0+1)=intD ((bZ l ((lW l u).2) ([(-1:Int),(4:Int),(1:Int)]:Z)).1)/\((dO l u).1.k.map bA=(dO l u).1.k.map bA/\0<(dO l u).1.k.length/\ ∀a4107,((dO l u).1.k)[0]? =some a4107->((bA a4107).take 1++ .sl 3 1 ((b4107.vars.set 0 ((bZ l ((lW l u).2) ([(-1:Int),(4:Int),(1:Int)]:Z)).1)).map intD)::(bA a4107).drop (1+1)=bA (⟨a4107.name,b4107.vars.set 0 ((bZ l ((lW l u).2) ([(-1:Int),(4:Int),(1:Int)]:Z)).1)⟩:cT))/\((dO l u).1.g)=((kW l u).1.g)/\((dO l u).1.k.set 0 (⟨a4107.name,b4107.vars.set 0 ((bZ l ((lW l u).2) ([(-1:Int),(4:Int),(1:Int)]:Z)).1)⟩:cT)).map bA=(kW l u).1.k.map bA/\aGH l ((bZ l ((lW l u).2) ([(-1:Int),(4:Int),(1:Int)]:Z)).2) ((kW l u).2) (True)))))))) (((dO l u).1.g)=((kW l u).1.g)/\(dO l u).1.k.map bA=(kW l u).1.k.map bA/\aGH l ((lW l u).2) ((kW l u).2) (True))))))))) ?_;have hq:=PB l u;have h1:=(eJ hq).2.1;have h2:=(eJ hq).1;have hat:=(eJ hq).2.2;refine⟨aDR l u (by assumption),rfl,rfl,rfl,hZ l ((dO l u).2) (by assumption) (14:Int),rfl,rfl,rfl,rfl,dd (fun c0=>?_) fun c0=>?_⟩
 ·refine⟨aGS,qS l ((lW l u).2) (by assumption) ([(0:Int),(5:Int),((dO l u).1.g)+1,(9223372036854775807:Int)]:Z) (Nat.succ_pos _),rfl,rfl,rfl,rfl,?_,?_,rfl,?_,?_,trivial⟩<;>((rw[aFa c0]<;>rfl))
 ·apply dd<;>intro c1
  ·refine⟨zI l ((lW l u).2) (by assumption) ([(⟨#[]⟩:E),(⟨#[119]⟩:E),(⟨#[114]⟩:E)]:List E) (by decide),rfl,rfl,rfl,rfl,rfl,rfl,rfl,aGR,?_,?_,rfl,?_,?_,trivial⟩<;>((rw[aFb c1]<;>rfl))
  ·apply dd<;>intro c2
   ·refine⟨aGR,aAb _,aGR,rfl,aGR,fun s8_4 hs8_4=>?_⟩;refine⟨aBF rfl,rfl,rfl,?_,?_,rfl,?_,?_,trivial⟩<;>((rw[aFc c2 hs8_4]<;>rfl))
   ·apply dd<;>intro c3
    ·refine⟨rfl,aGR,fun b4107 hb4107=>?_⟩;have hp:=(nQ (hat b4107 (aBD hb4107))).2.1;refine⟨aGR,aAb _,aGR,rfl,qS l ((lW l u).2) (by assumption) ([(-1:Int),(4:Int),(1:Int)]:Z) (by decide),rfl,rfl,rfl,rfl,aGR,aAb _,aGR,rfl,aGR,fun s10_9 hs10_9=>⟨rfl,aBF rfl,rfl,?_⟩⟩;refine⟨rfl,aGR,fun a4107 ha4107=>⟨rfl,?_⟩⟩;obtain rfl:=bE hb4107 ha4107;refine⟨?_,?_,rfl,?_,?_,trivial⟩<;>((rw[aFd c3 (by assumption)]<;>rfl))
    ·refine⟨?_,?_,rfl,?_,?_,trivial⟩<;>((rw[aFe c0 c1 c2 c3]<;>rfl))
def aG3 {l:Z}{u:Cu}(h:(qX l u).1=0):wJ l u=(⟨(dT l (qX l u).2 [⟨#[]⟩,⟨#[82]⟩,⟨#[114,115]⟩,⟨#[122]⟩]).1,(rU l u).1.l,(rU l u).1.rows⟩,(dT l (qX l u).2 [⟨#[]⟩,⟨#[82]⟩,⟨#[114,115]⟩,⟨#[122]⟩]).2):=by rw[wJ,if_pos h]
def aG4 {l:Z}{u:Cu}(h:(qX l u).1=1):wJ l u=(⟨(rU l u).1.name,(bZ l (qX l u).2 [0,4,-1]).1,(rU l u).1.rows⟩,(bZ l (qX l u).2 [0,4,-1]).2):=by rw[wJ,if_neg aGR,if_pos h]
def aG5 {l:Z}{u:Cu}(h:(qX l u).1=2):wJ l u=(⟨(rU l u).1.name,(rU l u).1.l,(rU l u).1.rows++[[0]]⟩,(qX l u).2):=by rw[wJ,if_neg aGR,if_neg aGR,if_pos h]
def aG6 {l:Z}{u:Cu}(h:(qX l u).1=3):wJ l u=(⟨(rU l u).1.name,(rU l u).1.l,(rU l u).1.rows++[[9,9,10]]⟩,(qX l u).2):=by rw[wJ,if_neg aGR,if_neg aGR,if_neg aGR,if_pos h]
def aG7 {l:Z}{u:Cu}(h0: ¬(qX l u).1=0)(h1: ¬(qX l u).1=1)(h2: ¬(qX l u).1=2)(h3: ¬(qX l u).1=3):wJ l u=((rU l u).1,(qX l u).2):=by rw[wJ,if_neg h0,if_neg h1,if_neg h2,if_neg h3]
abbrev BW (l:Z)(u:Cu):List AV × aGJ × AV × aGJ:=([.ptr 0 0],[(0,.box 102 [.p none (.sl 5 1 (l.map bQ)),vI (u.i:Int),vI u.h])],.agg [.p none (.str ((wJ l u).1.name)),vI ((wJ l u).1.l),.own 1],[(0,.box 102 [.p none (.sl 5 1 (l.map bQ)),vI (((wJ l u).2.i:Nat):Int),vI ((wJ l u).2.h)]),(1,.arr 51 1 true ((wJ l u).1.rows.map aD))])
abbrev RZ (l:Z)(u:Cu):Prop:=Cm 150 (BW l u).1 (BW l u).2.1 (BW l u).2.2.1 (BW l u).2.2.2
def aEc (l:Z)(u:Cu)(hl:l.length<=1048576):RZ l u:=by
 refine Ls Tryz.func150 (bH (mC l u ([(⟨#[114]⟩:E),(⟨#[115]⟩:E),(⟨#[116]⟩:E)]:List E)) [(0,0),(1,600)]<| bH (dX l ((NH l u).2) (3:Int)) [(0,0)]<| bH (oX l ((HB l u).2) ((NH l u).1) ((1:Int)+((HB l u).1)) (6:Int) (4:Int)) [(0,0)]<| bH (dX l ((rU l u).2) (12:Int)) [(0,0)]<| .br (bH (mC l ((qX l u).2) ([(⟨#[]⟩:E),(⟨#[82]⟩:E),(⟨#[114,115]⟩:E),(⟨#[122]⟩:E)]:List E)) [(0,0),(1,1700)]<| .fin [(0,0),(1,1101)]) (.br (bH (iK l ((qX l u).2) ([(0:Int),(4:Int),(-1:Int)]:Z)) [(0,0),(1,2300)]<| .fin [(0,0),(1,1101)]) (.br (.appx Z aD ((rU l u).1.rows) ([(0:Int)]:Z)<| .fin [(0,0),(1,3200)]) (.br (.appx Z aD ((rU l u).1.rows) ([(9:Int),(9:Int),(10:Int)]:Z)<| .fin [(0,0),(1,4000)]) (.fin [(0,0),(1,1101)]))))) (p:=pX l u ([(⟨#[114]⟩:E),(⟨#[115]⟩:E),(⟨#[116]⟩:E)]:List E)/\aGI l u ([[.str (⟨#[114]⟩:E)],[.str (⟨#[115]⟩:E)],[.str (⟨#[116]⟩:E)]]=([(⟨#[114]⟩:E),(⟨#[115]⟩:E),(⟨#[116]⟩:E)]:List E).map iG/\eQ l ((NH l u).2) (3:Int)/\(3:Int)=3/\aGI l ((NH l u).2) (bO ((1:Int)+((HB l u).1))/\tQ l ((HB l u).2) ((NH l u).1) ((1:Int)+((HB l u).1)) (6:Int) (4:Int)/\((NH l u).1)=((NH l u).1)/\((1:Int)+((HB l u).1))=((1:Int)+((HB l u).1))/\(6:Int)=6/\(4:Int)=4/\aGI l ((HB l u).2) (eQ l ((rU l u).2) (12:Int)/\(12:Int)=12/\aGI l ((rU l u).2) (Br (((qX l u).1)=0) (pX l ((qX l u).2) ([(⟨#[]⟩:E),(⟨#[82]⟩:E),(⟨#[114,115]⟩:E),(⟨#[122]⟩:E)]:List E)/\aGI l ((qX l u).2) ([[.str (⟨#[]⟩:E)],[.str (⟨#[82]⟩:E)],[.str (⟨#[114,115]⟩:E)],[.str (⟨#[122]⟩:E)]]=([(⟨#[]⟩:E),(⟨#[82]⟩:E),(⟨#[114,115]⟩:E),(⟨#[122]⟩:E)]:List E).map iG/\((dT l ((qX l u).2) ([(⟨#[]⟩:E),(⟨#[82]⟩:E),(⟨#[114,115]⟩:E),(⟨#[122]⟩:E)]:List E)).1)=((wJ l u).1.name)/\((rU l u).1.l)=((wJ l u).1.l)/\aGH l ((dT l ((qX l u).2) ([(⟨#[]⟩:E),(⟨#[82]⟩:E),(⟨#[114,115]⟩:E),(⟨#[122]⟩:E)]:List E)).2) ((wJ l u).2) ((rU l u).1.rows.map aD=(wJ l u).1.rows.map aD/\True))) (Br (((qX l u).1)=1) (kK l ((qX l u).2) ([(0:Int),(4:Int),(-1:Int)]:Z)/\aGI l ((qX l u).2) ([[.int .i64 (0:Int)],[.int .i64 (4:Int)],[.int .i64 (-1:Int)]]=([(0:Int),(4:Int),(-1:Int)]:Z).map intD/\((rU l u).1.name)=((wJ l u).1.name)/\((bZ l ((qX l u).2) ([(0:Int),(4:Int),(-1:Int)]:Z)).1)=((wJ l u).1.l)/\aGH l ((bZ l ((qX l u).2) ([(0:Int),(4:Int),(-1:Int)]:Z)).2) ((wJ l u).2) ((rU l u).1.rows.map aD=(wJ l u).1.rows.map aD/\True))) (Br (((qX l u).1)=2) ((rU l u).1.rows.map aD=(rU l u).1.rows.map aD/\[[.int .i64 (0:Int)]]=([(0:Int)]:Z).map intD/\((rU l u).1.rows.length+1)*24<=140737488355328/\((rU l u).1.name)=((wJ l u).1.name)/\((rU l u).1.l)=((wJ l u).1.l)/\aGH l ((qX l u).2) ((wJ l u).2) ((((rU l u).1.rows)++[([(0:Int)]:Z)]).map aD=(wJ l u).1.rows.map aD/\True)) (Br (((qX l u).1)=3) ((rU l u).1.rows.map aD=(rU l u).1.rows.map aD/\[[.int .i64 (9:Int)],[.int .i64 (9:Int)],[.int .i64 (10:Int)]]=([(9:Int),(9:Int),(10:Int)]:Z).map intD/\((rU l u).1.rows.length+1)*24<=140737488355328/\((rU l u).1.name)=((wJ l u).1.name)/\((rU l u).1.l)=((wJ l u).1.l)/\aGH l ((qX l u).2) ((wJ l u).2) ((((rU l u).1.rows)++[([(9:Int),(9:Int),(10:Int)]:Z)]).map aD=(wJ l u).1.rows.map aD/\True)) (((rU l u).1.name)=((wJ l u).1.name)/\((rU l u).1.l)=((wJ l u).1.l)/\aGH l ((qX l u).2) ((wJ l u).2) ((rU l u).1.rows.map aD=(wJ l u).1.rows.map aD/\True)))))))))) ?_;have z0:=aDD l u;have w0:0<=(HB l u).1/\(HB l u).1<3:=fB l (NH l u).2 (n:=3) aGR;refine⟨zI l u (by assumption) ([(⟨#[114]⟩:E),(⟨#[115]⟩:E),(⟨#[116]⟩:E)]:List E) (by decide),rfl,rfl,rfl,rfl,hZ l ((NH l u).2) (by assumption) (3:Int),rfl,rfl,rfl,rfl,aGS,HF l ((HB l u).2) (by assumption) ((NH l u).1) ((1:Int)+((HB l u).1)) (6:Int) (4:Int) aGR aGR,rfl,rfl,rfl,rfl,rfl,rfl,rfl,hZ l ((rU l u).2) (by assumption) (12:Int),rfl,rfl,rfl,rfl,dd (fun c0=>?_) fun c0=>?_⟩
 ·refine⟨zI l ((qX l u).2) (by assumption) ([(⟨#[]⟩:E),(⟨#[82]⟩:E),(⟨#[114,115]⟩:E),(⟨#[122]⟩:E)]:List E) (by decide),rfl,rfl,rfl,rfl,?_,?_,rfl,?_,?_,?_,trivial⟩<;>((rw[aG3 c0]<;>rfl))
 ·apply dd<;>intro c1
  ·refine⟨qS l ((qX l u).2) (by assumption) ([(0:Int),(4:Int),(-1:Int)]:Z) (by decide),rfl,rfl,rfl,rfl,?_,?_,rfl,?_,?_,?_,trivial⟩<;>((rw[aG4 c1]<;>rfl))
  ·apply dd<;>intro c2
   ·refine⟨rfl,rfl,aGR,?_,?_,rfl,?_,?_,?_,trivial⟩<;>((rw[aG5 c2]<;>rfl))
   ·apply dd<;>intro c3
    ·refine⟨rfl,rfl,aGR,?_,?_,rfl,?_,?_,?_,trivial⟩<;>((rw[aG6 c3]<;>rfl))
    ·refine⟨?_,?_,rfl,?_,?_,?_,trivial⟩<;>((rw[aG7 c0 c1 c2 c3]<;>rfl))
def aG8 {l:Z}{u:Cu}{t:aX}(h:(aC l (eY l u 5).cu 8).1=0)(ht:(eY l u 5).tabs[(aC l (aC l (eY l u 5).cu 8).2 5).1.toNat]? =some t):iP l u=(⟨(eY l u 5).tabs.set (aC l (aC l (eY l u 5).cu 8).2 5).1.toNat ⟨t.name,t.l,[]⟩⟩,(aC l (aC l (eY l u 5).cu 8).2 5).2):=by
 rw[iP,if_pos h];have e:vC (eY l u 5).tabs (dbI l u).1.toNat noR=(eY l u 5).tabs.set (aC l (aC l (eY l u 5).cu 8).2 5).1.toNat ⟨t.name,t.l,[]⟩:=FE ht;rw[e];rfl
def aG9 {l:Z}{u:Cu}(h: ¬(aC l (eY l u 5).cu 8).1=0):iP l u=(⟨(eY l u 5).tabs⟩,(aC l (eY l u 5).cu 8).2):=by rw[iP,if_neg h]
def PD {n:E}{a b:Bool}(h1:(n.toList==(⟨#[117]⟩:E).toList)=a)(h2:(n.toList==(⟨#[118]⟩:E).toList)=b):arN n=cond b 1 (cond a 3 2):=by
 rw[arN];cases b with
 | true=>
   have e:n=⟨#[118]⟩:=by rw[mO] at h2;exact of_decide_eq_true h2
   rw[if_pos e];rfl
 | false=>
   have e: ¬n=⟨#[118]⟩:=by rw[mO] at h2;exact of_decide_eq_false h2
   rw[if_neg e];cases a with
   | true=>
     have e:n=⟨#[117]⟩:=by rw[mO] at h1;exact of_decide_eq_true h1
     rw[if_pos e];rfl
   | false=>
     have e: ¬n=⟨#[117]⟩:=by rw[mO] at h1;exact of_decide_eq_false h1
     rw[if_neg e];rfl
def mY {l:Z}{u:Cu}{k:Nat}{n:E}(h:GM[k]? =some n){m:Int}(hm:arN n=m):eY l u (k+1)=⟨(eY l u k).tabs++[(fN l (eY l u k).cu n m (oF l u).1 (nJ l u).1).1],(fN l (eY l u k).cu n m (oF l u).1 (nJ l u).1).2⟩:=by
 rw[eY,dbP,dbG,aCz,h,<-hm];rfl
abbrev GR (l:Z)(u:Cu):List AV × aGJ × AV × aGJ:=([.ptr 0 0],[(0,.box 102 [.p none (.sl 5 1 (l.map bQ)),vI (u.i:Int),vI u.h])],.agg [.own 1],[(0,.box 102 [.p none (.sl 5 1 (l.map bQ)),vI (((iP l u).2.i:Nat):Int),vI ((iP l u).2.h)]),(1,.arr 155 3 false ((iP l u).1.a.map aP))])
abbrev TZ (l:Z)(u:Cu):Prop:=Cm 101 (GR l u).1 (GR l u).2.1 (GR l u).2.2.1 (GR l u).2.2.2
def aFf (l:Z)(u:Cu)(hl:l.length<=1048576):TZ l u:=by
 refine Ls Tryz.func101 (bH (iK l u ([(2:Int),(3:Int),(4:Int),(6:Int)]:Z)) [(0,0),(1,1100)]<| bH (iK l ((nJ l u).2) ([(2:Int),(4:Int),(6:Int),(8:Int)]:Z)) [(0,0),(1,1400)]<| .len 5<| .loop Nat (Q1 Nat) ([7,8,9]++rg 19 21) [0,500,900,1700,3201,3600,3700,9001] (fun k=>[(19,vI (k:Int))]) (fun k=>[(500,some (.box 26 [.own 9001])),(9001,some (.arr 155 3 true ((eY l u k).tabs.map aP))),(0,some (.box 102 [.p none (.sl 5 1 (l.map bQ)),vI (((eY l u k).cu.i:Nat):Int),vI ((eY l u k).cu.h)])),(1700,some (.arr 9 1 true (GM.map iG)))]) (fun k=>k<=5) (fun k=>5 - k) (fun k=> .br (.len GM.length<| .elem _ iG GM (fun e22=> .br (.br (bH (oX l ((eY l u k).cu) e22 (1:Int) ((oF l u).1) ((nJ l u).1)) [(0,0)]<| .appx aX aP ((eY l u k).tabs) ((fN l ((eY l u k).cu) e22 (1:Int) ((oF l u).1) ((nJ l u).1)).1)<| .back [(0,0),(500,500),(1700,1700),(9001,3700)]) (bH (oX l ((eY l u k).cu) e22 (3:Int) ((oF l u).1) ((nJ l u).1)) [(0,0)]<| .appx aX aP ((eY l u k).tabs) ((fN l ((eY l u k).cu) e22 (3:Int) ((oF l u).1) ((nJ l u).1)).1)<| .back [(0,0),(500,500),(1700,1700),(9001,3700)])) (.br (bH (oX l ((eY l u k).cu) e22 (1:Int) ((oF l u).1) ((nJ l u).1)) [(0,0)]<| .appx aX aP ((eY l u k).tabs) ((fN l ((eY l u k).cu) e22 (1:Int) ((oF l u).1) ((nJ l u).1)).1)<| .back [(0,0),(500,500),(1700,1700),(9001,3700)]) (bH (oX l ((eY l u k).cu) e22 (2:Int) ((oF l u).1) ((nJ l u).1)) [(0,0)]<| .appx aX aP ((eY l u k).tabs) ((fN l ((eY l u k).cu) e22 (2:Int) ((oF l u).1) ((nJ l u).1)).1)<| .back [(0,0),(500,500),(1700,1700),(9001,3700)])))) (bH (iA l ((eY l u k).cu) (8:Int)) [(0,0)]<| .br (.shal 16 9001<| bH (dX l ((aC l ((eY l u k).cu) (8:Int)).2) (5:Int)) [(0,0)]<| .len ((eY l u k).tabs.length)<| .setr aX aP ((eY l u k).tabs) (fun s16_6=>(⟨s16_6.name,s16_6.l,([]:List Z)⟩:aX)) (fun s16_6=> .fin [(0,0),(1,9001)])) (.shal 17 9001<| .fin [(0,0),(1,9001)])))) (p:=kK l u ([(2:Int),(3:Int),(4:Int),(6:Int)]:Z)/\aGI l u ([[.int .i64 (2:Int)],[.int .i64 (3:Int)],[.int .i64 (4:Int)],[.int .i64 (6:Int)]]=([(2:Int),(3:Int),(4:Int),(6:Int)]:Z).map intD/\(kK l ((nJ l u).2) ([(2:Int),(4:Int),(6:Int),(8:Int)]:Z)/\aGI l ((nJ l u).2) ([[.int .i64 (2:Int)],[.int .i64 (4:Int)],[.int .i64 (6:Int)],[.int .i64 (8:Int)]]=([(2:Int),(4:Int),(6:Int),(8:Int)]:Z).map intD/\(([[.str (⟨#[114]⟩:E)],[.str (⟨#[115]⟩:E)],[.str (⟨#[116]⟩:E)],[.str (⟨#[117]⟩:E)],[.str (⟨#[118]⟩:E)]]:List (List bX)).length=5/\((∃(k:Nat),0=(k:Int)/\[]=(eY l u k).tabs.map aP/\aGH l ((oF l u).2) ((eY l u k).cu) ([[.str (⟨#[114]⟩:E)],[.str (⟨#[115]⟩:E)],[.str (⟨#[116]⟩:E)],[.str (⟨#[117]⟩:E)],[.str (⟨#[118]⟩:E)]]=GM.map iG/\k<=5))/\ ∀(k:Nat),k<=5->Br ((k:Int)<5) (0<=(k:Int)/\Lm iG GM/\(k:Int)<(GM.length:Int)/\Em iG GM k fun e22=>Bb (e22.toList==(⟨#[117]⟩:E).toList) (Bb (e22.toList==(⟨#[118]⟩:E).toList) (tQ l ((eY l u k).cu) e22 (1:Int) ((oF l u).1) ((nJ l u).1)/\e22=e22/\(1:Int)=1/\((oF l u).1)=((oF l u).1)/\((nJ l u).1)=((nJ l u).1)/\aGI l ((eY l u k).cu) ((eY l u k).tabs.map aP=(eY l u k).tabs.map aP/\(((fN l ((eY l u k).cu) e22 (1:Int) ((oF l u).1) ((nJ l u).1)).1).name)=(((fN l ((eY l u k).cu) e22 (1:Int) ((oF l u).1) ((nJ l u).1)).1).name)/\(((fN l ((eY l u k).cu) e22 (1:Int) ((oF l u).1) ((nJ l u).1)).1).l)=(((fN l ((eY l u k).cu) e22 (1:Int) ((oF l u).1) ((nJ l u).1)).1).l)/\(((fN l ((eY l u k).cu) e22 (1:Int) ((oF l u).1) ((nJ l u).1)).1).rows).map aD=(((fN l ((eY l u k).cu) e22 (1:Int) ((oF l u).1) ((nJ l u).1)).1).rows).map aD/\((eY l u k).tabs.length+1)*48<=140737488355328/\bO ((k:Int)+1)/\ ∃(k' :Nat),((k:Int)+1)=(k' :Int)/\(((eY l u k).tabs)++[((fN l ((eY l u k).cu) e22 (1:Int) ((oF l u).1) ((nJ l u).1)).1)]).map aP=(eY l u k').tabs.map aP/\aGH l ((fN l ((eY l u k).cu) e22 (1:Int) ((oF l u).1) ((nJ l u).1)).2) ((eY l u k').cu) (GM.map iG=GM.map iG/\k' <=5/\5 - k' <5 - k))) (tQ l ((eY l u k).cu) e22 (3:Int) ((oF l u).1) ((nJ l u).1)/\e22=e22/\(3:Int)=3/\((oF l u).1)=((oF l u).1)/\((nJ l u).1)=((nJ l u).1)/\aGI l ((eY l u k).cu) ((eY l u k).tabs.map aP=(eY l u k).tabs.map aP/\(((fN l ((eY l u k).cu) e22 (3:Int) ((oF l u).1) ((nJ l u).1)).1).name)=(((fN l ((eY l u k).cu) e22 (3:Int) ((oF l u).1) ((nJ l u).1)).1).name)/\(((fN l ((eY l u k).cu) e22 (3:Int) ((oF l u).1) ((nJ l u).1)).1).l)=(((fN l ((eY l u k).cu) e22 (3:Int) ((oF l u).1) ((nJ l u).1)).1).l)/\(((fN l ((eY l u k).cu) e22 (3:Int) ((oF l u).1) ((nJ l u).1)).1).rows).map aD=(((fN l ((eY l u k).cu) e22 (3:Int) ((oF l u).1) ((nJ l u).1)).1).rows).map aD/\((eY l u k).tabs.length+1)*48<=140737488355328/\bO ((k:Int)+1)/\ ∃(k' :Nat),((k:Int)+1)=(k' :Int)/\(((eY l u k).tabs)++[((fN l ((eY l u k).cu) e22 (3:Int) ((oF l u).1) ((nJ l u).1)).1)]).map aP=(eY l u k').tabs.map aP/\aGH l ((fN l ((eY l u k).cu) e22 (3:Int) ((oF l u).1) ((nJ l u).1)).2) ((eY l u k').cu) (GM.map iG=GM.map iG/\k' <=5/\5 - k' <5 - k)))) (Bb (e22.toList==(⟨#[118]⟩:E).toList) (tQ l ((eY l u k).cu) e22 (1:Int) ((oF l u).1) ((nJ l u).1)/\e22=e22/\(1:Int)=1/\((oF l u).1)=((oF l u).1)/\((nJ l u).1)=((nJ l u).1)/\aGI l ((eY l u k).cu) ((eY l u k).tabs.map aP=(eY l u k).tabs.map aP/\(((fN l ((eY l u k).cu) e22 (1:Int) ((oF l u).1) ((nJ l u).1)).1).name)=(((fN l ((eY l u k).cu) e22 (1:Int) ((oF l u).1) ((nJ l u).1)).1).name)/\(((fN l ((eY l u k).cu) e22 (1:Int) ((oF l u).1) ((nJ l u).1)).1).l)=(((fN l ((eY l u k).cu) e22 (1:Int) ((oF l u).1) ((nJ l u).1)).1).l)/\(((fN l ((eY l u k).cu) e22 (1:Int) ((oF l u).1) ((nJ l u).1)).1).rows).map aD=(((fN l ((eY l u k).cu) e22 (1:Int) ((oF l u).1) ((nJ l u).1)).1).rows).map aD/\((eY l u k).tabs.length+1)*48<=140737488355328/\bO ((k:Int)+1)/\ ∃(k' :Nat),((k:Int)+1)=(k' :Int)/\(((eY l u k).tabs)++[((fN l ((eY l u k).cu) e22 (1:Int) ((oF l u).1) ((nJ l u).1)).1)]).map aP=(eY l u k').tabs.map aP/\aGH l ((fN l ((eY l u k).cu) e22 (1:Int) ((oF l u).1) ((nJ l u).1)).2) ((eY l u k').cu) (GM.map iG=GM.map iG/\k' <=5/\5 - k' <5 - k))) (tQ l ((eY l u k).cu) e22 (2:Int) ((oF l u).1) ((nJ l u).1)/\e22=e22/\(2:Int)=2/\((oF l u).1)=((oF l u).1)/\((nJ l u).1)=((nJ l u).1)/\aGI l ((eY l u k).cu) ((eY l u k).tabs.map aP=(eY l u k).tabs.map aP/\(((fN l ((eY l u k).cu) e22 (2:Int) ((oF l u).1) ((nJ l u).1)).1).name)=(((fN l ((eY l u k).cu) e22 (2:Int) ((oF l u).1) ((nJ l u).1)).1).name)/\(((fN l ((eY l u k).cu) e22 (2:Int) ((oF l u).1) ((nJ l u).1)).1).l)=(((fN l ((eY l u k).cu) e22 (2:Int) ((oF l u).1) ((nJ l u).1)).1).l)/\(((fN l ((eY l u k).cu) e22 (2:Int) ((oF l u).1) ((nJ l u).1)).1).rows).map aD=(((fN l ((eY l u k).cu) e22 (2:Int) ((oF l u).1) ((nJ l u).1)).1).rows).map aD/\((eY l u k).tabs.length+1)*48<=140737488355328/\bO ((k:Int)+1)/\ ∃(k' :Nat),((k:Int)+1)=(k' :Int)/\(((eY l u k).tabs)++[((fN l ((eY l u k).cu) e22 (2:Int) ((oF l u).1) ((nJ l u).1)).1)]).map aP=(eY l u k').tabs.map aP/\aGH l ((fN l ((eY l u k).cu) e22 (2:Int) ((oF l u).1) ((nJ l u).1)).2) ((eY l u k').cu) (GM.map iG=GM.map iG/\k' <=5/\5 - k' <5 - k))))) (jR l ((eY l u k).cu) (8:Int)/\(8:Int)=8/\aGI l ((eY l u k).cu) (Br ((aC l ((eY l u k).cu) (8:Int)).1=0) (eQ l ((aC l ((eY l u k).cu) (8:Int)).2) (5:Int)/\(5:Int)=5/\aGI l ((aC l ((eY l u k).cu) (8:Int)).2) ((0<=((aC l ((aC l ((eY l u k).cu) (8:Int)).2) (5:Int)).1)/\Lm aP ((eY l u k).tabs)/\((aC l ((aC l ((eY l u k).cu) (8:Int)).2) (5:Int)).1)<(((eY l u k).tabs.length:Nat):Int)/\((eY l u k).tabs.map aP=(eY l u k).tabs.map aP/\((aC l ((aC l ((eY l u k).cu) (8:Int)).2) (5:Int)).1).toNat<(eY l u k).tabs.length/\ ∀s16_6,((eY l u k).tabs)[((aC l ((aC l ((eY l u k).cu) (8:Int)).2) (5:Int)).1).toNat]? =some s16_6->2+1<=(aP s16_6).length/\(aP s16_6).take 2++((aP (⟨s16_6.name,s16_6.l,([]:List Z)⟩:aX)).drop 2).take 1++(aP s16_6).drop (2+1)=aP (⟨s16_6.name,s16_6.l,([]:List Z)⟩:aX)/\((⟨s16_6.name,s16_6.l,([]:List Z)⟩:aX).rows).map aD= []/\aGH l ((aC l ((aC l ((eY l u k).cu) (8:Int)).2) (5:Int)).2) ((iP l u).2) (((eY l u k).tabs.set (((aC l ((aC l ((eY l u k).cu) (8:Int)).2) (5:Int)).1).toNat) (⟨s16_6.name,s16_6.l,([]:List Z)⟩:aX)).map aP=(iP l u).1.a.map aP/\True))))) (aGH l ((aC l ((eY l u k).cu) (8:Int)).2) ((iP l u).2) ((eY l u k).tabs.map aP=(iP l u).1.a.map aP/\True)))))))))) ?_;have hM:=U3 l u;have hnm:GM.length=5:=rfl;refine⟨qS l u (by assumption) ([(2:Int),(3:Int),(4:Int),(6:Int)]:Z) (by decide),rfl,rfl,rfl,rfl,qS l ((nJ l u).2) (by assumption) ([(2:Int),(4:Int),(6:Int),(8:Int)]:Z) (by decide),rfl,rfl,rfl,rfl,rfl,⟨0,(by rfl),(by rfl),(by rfl),(by rfl),(by rfl),(by rfl),aGR⟩,fun k hk=>?_⟩;have hz:=O7 l u k;apply dd<;>intro c0
 ·refine⟨aGR,aAb _,aGR,rfl,aGR,fun e22 h22=>?_⟩;apply db<;>intro c1
  ·apply db<;>intro c2
   ·have hA:=PD c1 c2;refine⟨HF l ((eY l u k).cu) (by assumption) e22 (1:Int) ((oF l u).1) ((nJ l u).1) aGR aGR,rfl,rfl,rfl,rfl,rfl,rfl,rfl,rfl,rfl,rfl,rfl,aGR,aGS,?_⟩;exact⟨k+1,(by rfl),(by (rw[mY h22 hA]<;>rfl)),(by rfl),(by (rw[mY h22 hA]<;>rfl)),(by (rw[mY h22 hA]<;>rfl)),(by rfl),aGR,aGR⟩
   ·have hA:=PD c1 c2;refine⟨HF l ((eY l u k).cu) (by assumption) e22 (3:Int) ((oF l u).1) ((nJ l u).1) aGR aGR,rfl,rfl,rfl,rfl,rfl,rfl,rfl,rfl,rfl,rfl,rfl,aGR,aGS,?_⟩;exact⟨k+1,(by rfl),(by (rw[mY h22 hA]<;>rfl)),(by rfl),(by (rw[mY h22 hA]<;>rfl)),(by (rw[mY h22 hA]<;>rfl)),(by rfl),aGR,aGR⟩
  ·apply db<;>intro c2
   ·have hA:=PD c1 c2;refine⟨HF l ((eY l u k).cu) (by assumption) e22 (1:Int) ((oF l u).1) ((nJ l u).1) aGR aGR,rfl,rfl,rfl,rfl,rfl,rfl,rfl,rfl,rfl,rfl,rfl,aGR,aGS,?_⟩;exact⟨k+1,(by rfl),(by (rw[mY h22 hA]<;>rfl)),(by rfl),(by (rw[mY h22 hA]<;>rfl)),(by (rw[mY h22 hA]<;>rfl)),(by rfl),aGR,aGR⟩
   ·have hA:=PD c1 c2;refine⟨HF l ((eY l u k).cu) (by assumption) e22 (2:Int) ((oF l u).1) ((nJ l u).1) aGR aGR,rfl,rfl,rfl,rfl,rfl,rfl,rfl,rfl,rfl,rfl,rfl,aGR,aGS,?_⟩;exact⟨k+1,(by rfl),(by (rw[mY h22 hA]<;>rfl)),(by rfl),(by (rw[mY h22 hA]<;>rfl)),(by (rw[mY h22 hA]<;>rfl)),(by rfl),aGR,aGR⟩
 ·have ek:k=5:=aGR
  have hz5:=O7 l u k;have w2:=fB l (aC l (eY l u k).cu 8).2 (n:=5) aGR;refine⟨pI l ((eY l u k).cu) (by assumption) (8:Int),rfl,rfl,rfl,rfl,dd (fun c3=>?_) fun c3=>?_⟩
  ·refine⟨hZ l ((aC l ((eY l u k).cu) (8:Int)).2) (by assumption) (5:Int),rfl,rfl,rfl,rfl,aGR,aAb _,aGR,rfl,aGR,fun s16_6 hs16_6=>?_⟩;refine⟨aBF rfl,rfl,rfl,rfl,?_,?_,?_,trivial⟩<;>((subst ek;(rw[aG8 c3 hs16_6]<;>rfl)))
  ·refine⟨rfl,?_,?_,?_,trivial⟩<;>((subst ek;(rw[aG9 c3]<;>rfl)))
def aGa {l:Z}{u:Cu}(h:(kV l u).1=0):yM l u=(⟨(iP l u).1.a.set (aC l (Dn l u).2 5).1.toNat (Dn l u).1⟩,(aC l (Dn l u).2 5).2):=by rw[yM,if_pos h]
def aGb {l:Z}{u:Cu}(h:(kV l u).1=1):yM l u=(⟨(iP l u).1.a++[(daX l u).1]⟩,(daX l u).2):=by rw[yM,if_neg aGR,if_pos h]
def aGc {l:Z}{u:Cu}(h:(kV l u).1=2):yM l u=(⟨(iP l u).1.a.drop (aC l (kV l u).2 5).1.toNat⟩,(aC l (kV l u).2 5).2):=by rw[yM,if_neg aGR,if_neg aGR,if_pos h]
def aGd {l:Z}{u:Cu}(h:(kV l u).1=3):yM l u=(⟨(iP l u).1.a++[(RE l u).1,(Wg l u).1]⟩,(Wg l u).2):=by rw[yM,if_neg aGR,if_neg aGR,if_neg aGR,if_pos h]
def aGe {l:Z}{u:Cu}(h0: ¬(kV l u).1=0)(h1: ¬(kV l u).1=1)(h2: ¬(kV l u).1=2)(h3: ¬(kV l u).1=3):yM l u=((iP l u).1,(kV l u).2):=by rw[yM,if_neg h0,if_neg h1,if_neg h2,if_neg h3]
abbrev FI (l:Z)(u:Cu):List AV × aGJ × AV × aGJ:=([.ptr 0 0],[(0,.box 102 [.p none (.sl 5 1 (l.map bQ)),vI (u.i:Int),vI u.h])],.agg [.p none (.sl 155 3 ((yM l u).1.a.map aP))],[(0,.box 102 [.p none (.sl 5 1 (l.map bQ)),vI (((yM l u).2.i:Nat):Int),vI ((yM l u).2.h)])])
abbrev VB (l:Z)(u:Cu):Prop:=Cm 109 (FI l u).1 (FI l u).2.1 (FI l u).2.2.1 (FI l u).2.2.2
abbrev fY:List E:=[(⟨#[97]⟩:E),(⟨#[119]⟩:E),(⟨#[122]⟩:E)]
def aFg (l:Z)(u:Cu)(hl:l.length<=1048576):VB l u:=by
 refine Ls Tryz.func109 (bH (GR l u) [(0,0)]<| bH (dX l ((iP l u).2) (10:Int)) [(0,0)]<| .br (bH (BW l ((kV l u).2)) [(0,0)]<| .stlb 5 400<| bH (dX l ((Dn l u).2) (5:Int)) [(0,0)]<| .len ((iP l u).1.a.length)<| .setr aX aP ((iP l u).1.a) (fun s5_6=>((Dn l u).1)) (fun s5_6=> .stlb 15 300<| .fin [(0,0)])) (.br (bH (mC l ((kV l u).2) fY) [(0,0),(1,2600)]<| bH (oX l ((dT l ((kV l u).2) fY).2) ((dT l ((kV l u).2) fY).1) (2:Int) (4:Int) (3:Int)) [(0,0)]<| .stlb 8 500<| .appr aX aP ((iP l u).1.a) ([((fN l ((dT l ((kV l u).2) fY).2) ((dT l ((kV l u).2) fY).1) (2:Int) (4:Int) (3:Int)).1)]:List aX)<| .stlb 15 300<| .fin [(0,0)]) (.br (.stlb 10 300<| bH (dX l ((kV l u).2) (5:Int)) [(0,0)]<| .sub aX aP ((iP l u).1.a)<| .stlb 15 300<| .fin [(0,0)]) (.br (bH (oX l ((kV l u).2) (⟨#[119]⟩:E) (1:Int) (2:Int) (3:Int)) [(0,0)]<| .stlb 13 600<| bH (oX l ((RE l u).2) (⟨#[120]⟩:E) (1:Int) (2:Int) (3:Int)) [(0,0)]<| .stlb 14 700<| .appr aX aP ((iP l u).1.a) ([((RE l u).1),((Wg l u).1)]:List aX)<| .stlb 15 300<| .fin [(0,0)]) (.stlb 15 300<| .fin [(0,0)]))))) (p:=TZ l u/\aGI l u ((eQ l ((iP l u).2) (10:Int)/\(10:Int)=10/\aGI l ((iP l u).2) (Br (((kV l u).1)=0) (RZ l ((kV l u).2)/\aGI l ((kV l u).2) ((eQ l ((Dn l u).2) (5:Int)/\(5:Int)=5/\aGI l ((Dn l u).2) ((0<=((aC l ((Dn l u).2) (5:Int)).1)/\Lm aP ((iP l u).1.a)/\((aC l ((Dn l u).2) (5:Int)).1)<(((iP l u).1.a.length:Nat):Int)/\((iP l u).1.a.map aP=(iP l u).1.a.map aP/\((aC l ((Dn l u).2) (5:Int)).1).toNat<(iP l u).1.a.length/\ ∀s5_6,((iP l u).1.a)[((aC l ((Dn l u).2) (5:Int)).1).toNat]? =some s5_6->0+3<=(aP s5_6).length/\(aP s5_6).take 0++((aP ((Dn l u).1)).drop 0).take 3++(aP s5_6).drop (0+3)=aP ((Dn l u).1)/\((Dn l u).1.name)=((Dn l u).1.name)/\((Dn l u).1.l)=((Dn l u).1.l)/\(Dn l u).1.rows.map aD=(Dn l u).1.rows.map aD/\((iP l u).1.a.set (((aC l ((Dn l u).2) (5:Int)).1).toNat) ((Dn l u).1)).map aP=(yM l u).1.a.map aP/\aGH l ((aC l ((Dn l u).2) (5:Int)).2) ((yM l u).2) (True))))))) (Br (((kV l u).1)=1) (pX l ((kV l u).2) fY/\aGI l ((kV l u).2) ([[.str (⟨#[97]⟩:E)],[.str (⟨#[119]⟩:E)],[.str (⟨#[122]⟩:E)]]=fY.map iG/\tQ l ((dT l ((kV l u).2) fY).2) ((dT l ((kV l u).2) fY).1) (2:Int) (4:Int) (3:Int)/\((dT l ((kV l u).2) fY).1)=((dT l ((kV l u).2) fY).1)/\(2:Int)=2/\(4:Int)=4/\(3:Int)=3/\aGI l ((dT l ((kV l u).2) fY).2) ((iP l u).1.a.map aP=(iP l u).1.a.map aP/\[[.str (((fN l ((dT l ((kV l u).2) fY).2) ((dT l ((kV l u).2) fY).1) (2:Int) (4:Int) (3:Int)).1).name),.int .i64 (((fN l ((dT l ((kV l u).2) fY).2) ((dT l ((kV l u).2) fY).1) (2:Int) (4:Int) (3:Int)).1).l),.sl 51 1 ((((fN l ((dT l ((kV l u).2) fY).2) ((dT l ((kV l u).2) fY).1) (2:Int) (4:Int) (3:Int)).1).rows).map aD)]]=([((fN l ((dT l ((kV l u).2) fY).2) ((dT l ((kV l u).2) fY).1) (2:Int) (4:Int) (3:Int)).1)]:List aX).map aP/\((iP l u).1.a.length+([((fN l ((dT l ((kV l u).2) fY).2) ((dT l ((kV l u).2) fY).1) (2:Int) (4:Int) (3:Int)).1)]:List aX).length)*48<=140737488355328/\(((iP l u).1.a)++[((fN l ((dT l ((kV l u).2) fY).2) ((dT l ((kV l u).2) fY).1) (2:Int) (4:Int) (3:Int)).1)]).map aP=(yM l u).1.a.map aP/\aGH l ((fN l ((dT l ((kV l u).2) fY).2) ((dT l ((kV l u).2) fY).1) (2:Int) (4:Int) (3:Int)).2) ((yM l u).2) (True)))) (Br (((kV l u).1)=2) (eQ l ((kV l u).2) (5:Int)/\(5:Int)=5/\aGI l ((kV l u).2) ((iP l u).1.a.map aP=(iP l u).1.a.map aP/\0<=((aC l ((kV l u).2) (5:Int)).1)/\((aC l ((kV l u).2) (5:Int)).1)<=(((iP l u).1.a.length:Nat):Int)/\((iP l u).1.a.drop (Int.toNat ((aC l ((kV l u).2) (5:Int)).1))).map aP=(yM l u).1.a.map aP/\aGH l ((aC l ((kV l u).2) (5:Int)).2) ((yM l u).2) (True))) (Br (((kV l u).1)=3) (tQ l ((kV l u).2) (⟨#[119]⟩:E) (1:Int) (2:Int) (3:Int)/\(⟨#[119]⟩:E)=(⟨#[119]⟩:E)/\(1:Int)=1/\(2:Int)=2/\(3:Int)=3/\aGI l ((kV l u).2) (tQ l ((RE l u).2) (⟨#[120]⟩:E) (1:Int) (2:Int) (3:Int)/\(⟨#[120]⟩:E)=(⟨#[120]⟩:E)/\(1:Int)=1/\(2:Int)=2/\(3:Int)=3/\aGI l ((RE l u).2) ((iP l u).1.a.map aP=(iP l u).1.a.map aP/\[[.str ((RE l u).1.name),.int .i64 ((RE l u).1.l),.sl 51 1 ((RE l u).1.rows.map aD)],[.str ((Wg l u).1.name),.int .i64 ((Wg l u).1.l),.sl 51 1 ((Wg l u).1.rows.map aD)]]=([((RE l u).1),((Wg l u).1)]:List aX).map aP/\((iP l u).1.a.length+([((RE l u).1),((Wg l u).1)]:List aX).length)*48<=140737488355328/\(((iP l u).1.a)++[((RE l u).1),((Wg l u).1)]).map aP=(yM l u).1.a.map aP/\aGH l ((Wg l u).2) ((yM l u).2) (True)))) ((iP l u).1.a.map aP=(yM l u).1.a.map aP/\aGH l ((kV l u).2) ((yM l u).2) (True))))))))) ?_;have hz:=O8 l u;have hz2:=hz.2;have w2:=fB l (kV l u).2 (n:=5) aGR;have w3:=fB l (Dn l u).2 (n:=5) aGR;refine⟨aFf l u (by assumption),rfl,rfl,rfl,hZ l ((iP l u).2) (by assumption) (10:Int),rfl,rfl,rfl,rfl,dd (fun c0=>?_) fun c0=>?_⟩
 ·refine⟨aEc l ((kV l u).2) (by assumption),rfl,rfl,rfl,hZ l ((Dn l u).2) (by assumption) (5:Int),rfl,rfl,rfl,rfl,aGR,aAb _,aGR,rfl,aGR,fun s5_6 hs5_6=>?_⟩;refine⟨aBF rfl,rfl,rfl,rfl,rfl,?_,rfl,?_,?_,trivial⟩<;>((rw[aGa c0]<;>rfl))
 ·apply dd<;>intro c1
  ·refine⟨zI l ((kV l u).2) (by assumption) fY (by decide),rfl,rfl,rfl,rfl,HF l ((dT l ((kV l u).2) fY).2) (by assumption) ((dT l ((kV l u).2) fY).1) (2:Int) (4:Int) (3:Int) aGR aGR,rfl,rfl,rfl,rfl,rfl,rfl,rfl,rfl,rfl,by (simp;omega),?_,rfl,?_,?_,trivial⟩<;>((rw[aGb c1]<;>rfl))
  ·apply dd<;>intro c2
   ·refine⟨hZ l ((kV l u).2) (by assumption) (5:Int),rfl,rfl,rfl,rfl,rfl,aGR,aGR,?_,rfl,?_,?_,trivial⟩<;>((rw[aGc c2]<;>rfl))
   ·apply dd<;>intro c3
    ·refine⟨HF l ((kV l u).2) (by assumption) (⟨#[119]⟩:E) (1:Int) (2:Int) (3:Int) aGR aGR,rfl,rfl,rfl,rfl,rfl,rfl,rfl,HF l ((RE l u).2) (by assumption) (⟨#[120]⟩:E) (1:Int) (2:Int) (3:Int) aGR aGR,rfl,rfl,rfl,rfl,rfl,rfl,rfl,rfl,rfl,by (simp;omega),?_,rfl,?_,?_,trivial⟩<;>((rw[aGd c3]<;>rfl))
    ·refine⟨?_,rfl,?_,?_,trivial⟩<;>((rw[aGe c0 c1 c2 c3]<;>rfl))
def Ta {l:Z}{dt:Int}{i:Nat}{s:Z × Cu}(h:(i:Int)=dt):cX l dt (i+1) s=cX l dt i s:=by rw[cX,ZU,if_pos h]
def Tc {l:Z}{dt:Int}{i:Nat}{s:Z × Cu}(h: ¬(i:Int)=dt)(h2:(aC l (cX l dt i s).2 2).1=0):cX l dt (i+1) s=((cX l dt i s).1++[(i:Int)],(aC l (cX l dt i s).2 2).2):=by rw[cX,ZU,if_neg h,if_pos h2]
def Td {l:Z}{dt:Int}{i:Nat}{s:Z × Cu}(h: ¬(i:Int)=dt)(h2: ¬(aC l (cX l dt i s).2 2).1=0):cX l dt (i+1) s=((cX l dt i s).1,(aC l (cX l dt i s).2 2).2):=by rw[cX,ZU,if_neg h,if_neg h2]
def aEd {l:Z}{u:Cu}(h2:(KG l u).1=0)(h3:(aC l (bZ l (KG l u).2 [-1,3,0]).2 16).1=0):fJ l u=(⟨deN l u,(deL l u).1++[(bZ l (aC l (bZ l (KG l u).2 [-1,3,0]).2 16).2 [-1,0,3,9223372036854775807]).1],(bZ l (KG l u).2 [-1,3,0]).1⟩,(bZ l (aC l (bZ l (KG l u).2 [-1,3,0]).2 16).2 [-1,0,3,9223372036854775807]).2):=by
 have e:ZW l u=bZ l (KG l u).2 [-1,3,0]:=by rw[ZW,if_pos h2]
 rw[fJ,deQ,e,if_pos h3]
def aEe {l:Z}{u:Cu}(h2:(KG l u).1=0)(h3: ¬(aC l (bZ l (KG l u).2 [-1,3,0]).2 16).1=0):fJ l u=(⟨deN l u,(deL l u).1,(bZ l (KG l u).2 [-1,3,0]).1⟩,(aC l (bZ l (KG l u).2 [-1,3,0]).2 16).2):=by
 have e:ZW l u=bZ l (KG l u).2 [-1,3,0]:=by rw[ZW,if_pos h2]
 rw[fJ,deQ,e,if_neg h3]
def aEf {l:Z}{u:Cu}(h2: ¬(KG l u).1=0)(h3:(aC l (KG l u).2 16).1=0):fJ l u=(⟨deN l u,(deL l u).1++[(bZ l (aC l (KG l u).2 16).2 [-1,0,3,9223372036854775807]).1],(ZV l u).1⟩,(bZ l (aC l (KG l u).2 16).2 [-1,0,3,9223372036854775807]).2):=by
 have e:ZW l u=((ZV l u).1,(KG l u).2):=by rw[ZW,if_neg h2]
 rw[fJ,deQ,e,if_pos h3]
def aEg {l:Z}{u:Cu}(h2: ¬(KG l u).1=0)(h3: ¬(aC l (KG l u).2 16).1=0):fJ l u=(⟨deN l u,(deL l u).1,(ZV l u).1⟩,(aC l (KG l u).2 16).2):=by
 have e:ZW l u=((ZV l u).1,(KG l u).2):=by rw[ZW,if_neg h2]
 rw[fJ,deQ,e,if_neg h3]
abbrev Ce (l:Z)(u:Cu):List AV × aGJ × AV × aGJ:=([.ptr 0 0],[(0,.box 102 [.p none (.sl 5 1 (l.map bQ)),vI (u.i:Int),vI u.h])],.agg [.p none (.str ((fJ l u).1.name)),.own 1,vI ((fJ l u).1.dst)],[(0,.box 102 [.p none (.sl 5 1 (l.map bQ)),vI (((fJ l u).2.i:Nat):Int),vI ((fJ l u).2.h)]),(1,.arr 3 1 true ((fJ l u).1.src.map intD))])
abbrev PE (l:Z)(u:Cu):Prop:=Cm 102 (Ce l u).1 (Ce l u).2.1 (Ce l u).2.2.1 (Ce l u).2.2.2
def aDS (l:Z)(u:Cu)(hl:l.length<=1048576):PE l u:=by
 refine Ls Tryz.func102 (bH (dX l u (5:Int)) [(0,0)]<| .len 5<| .elem _ intD ([(2:Int),(2:Int),(2:Int),(3:Int),(1:Int)]:Z) (fun e12=> .len 5<| .elem _ iG ([(⟨#[114]⟩:E),(⟨#[115]⟩:E),(⟨#[116]⟩:E),(⟨#[117]⟩:E),(⟨#[118]⟩:E)]:List E) (fun e16=>bH (dX l ((cW l u).2) e12) [(0,0)]<| .loop Nat (Q1 Nat) ([6]++rg 21 19) [0,500,3700,3800,9001] (fun i=>[(6,vI (i:Int))]) (fun i=>[(500,some (.box 134 [.p none (.str e16),.own 9001,vI ((aC l (cW l u).2 e12).1)])),(9001,some (.arr 3 1 true (((cX l (aC l (cW l u).2 e12).1 i ([],(aC l (cW l u).2 e12).2)).1).map intD))),(0,some (.box 102 [.p none (.sl 5 1 (l.map bQ)),vI (((cX l (aC l (cW l u).2 e12).1 i ([],(aC l (cW l u).2 e12).2)).2.i:Nat):Int),vI ((cX l (aC l (cW l u).2 e12).1 i ([],(aC l (cW l u).2 e12).2)).2.h)]))]) (fun i=>(i:Int)<=max 0 e12) (fun i=>(e12 - i).toNat) (fun i=> .br (.br (bH (iA l ((cX l (aC l (cW l u).2 e12).1 i ([],(aC l (cW l u).2 e12).2)).2) (2:Int)) [(0,0)]<| .lit<| .br (.app Int intD ((cX l (aC l (cW l u).2 e12).1 i ([],(aC l (cW l u).2 e12).2)).1) ([(i:Int)]:Z)<| .back [(0,0),(500,500),(9001,3800)]) (.back [(0,0),(500,500),(9001,9001)])) (.back [(0,0),(500,500),(9001,9001)])) (bH (iA l ((cX l (aC l (cW l u).2 e12).1 i ([],(aC l (cW l u).2 e12).2)).2) (14:Int)) [(0,0)]<| .br (bH (iK l ((aC l ((cX l (aC l (cW l u).2 e12).1 i ([],(aC l (cW l u).2 e12).2)).2) (14:Int)).2) ([(-1:Int),(3:Int),(0:Int)]:Z)) [(0,0),(1,4300)]<| bH (iA l ((bZ l ((aC l ((cX l (aC l (cW l u).2 e12).1 i ([],(aC l (cW l u).2 e12).2)).2) (14:Int)).2) ([(-1:Int),(3:Int),(0:Int)]:Z)).2) (16:Int)) [(0,0)]<| .br (bH (iK l ((aC l ((bZ l ((aC l ((cX l (aC l (cW l u).2 e12).1 i ([],(aC l (cW l u).2 e12).2)).2) (14:Int)).2) ([(-1:Int),(3:Int),(0:Int)]:Z)).2) (16:Int)).2) ([(-1:Int),(0:Int),(3:Int),(9223372036854775807:Int)]:Z)) [(0,0),(1,5100)]<| .app Int intD ((cX l (aC l (cW l u).2 e12).1 i ([],(aC l (cW l u).2 e12).2)).1) ([(bZ l ((aC l ((bZ l ((aC l ((cX l (aC l (cW l u).2 e12).1 i ([],(aC l (cW l u).2 e12).2)).2) (14:Int)).2) ([(-1:Int),(3:Int),(0:Int)]:Z)).2) (16:Int)).2) ([(-1:Int),(0:Int),(3:Int),(9223372036854775807:Int)]:Z)).1]:Z)<| .fin [(0,0),(1,5400)]) (.fin [(0,0),(1,9001)])) (bH (iA l ((aC l ((cX l (aC l (cW l u).2 e12).1 i ([],(aC l (cW l u).2 e12).2)).2) (14:Int)).2) (16:Int)) [(0,0)]<| .br (bH (iK l ((aC l ((aC l ((cX l (aC l (cW l u).2 e12).1 i ([],(aC l (cW l u).2 e12).2)).2) (14:Int)).2) (16:Int)).2) ([(-1:Int),(0:Int),(3:Int),(9223372036854775807:Int)]:Z)) [(0,0),(1,5100)]<| .app Int intD ((cX l (aC l (cW l u).2 e12).1 i ([],(aC l (cW l u).2 e12).2)).1) ([(bZ l ((aC l ((aC l ((cX l (aC l (cW l u).2 e12).1 i ([],(aC l (cW l u).2 e12).2)).2) (14:Int)).2) (16:Int)).2) ([(-1:Int),(0:Int),(3:Int),(9223372036854775807:Int)]:Z)).1]:Z)<| .fin [(0,0),(1,5400)]) (.fin [(0,0),(1,9001)]))))))) (p:=eQ l u (5:Int)/\(5:Int)=5/\aGI l u ((0<=((cW l u).1)/\([[.int .i64 (2:Int)],[.int .i64 (2:Int)],[.int .i64 (2:Int)],[.int .i64 (3:Int)],[.int .i64 (1:Int)]]:List (List bX)).length=5/\((cW l u).1)<((5:Nat):Int)/\([[.int .i64 (2:Int)],[.int .i64 (2:Int)],[.int .i64 (2:Int)],[.int .i64 (3:Int)],[.int .i64 (1:Int)]]=([(2:Int),(2:Int),(2:Int),(3:Int),(1:Int)]:Z).map intD/\(cW l u).1.toNat<(([(2:Int),(2:Int),(2:Int),(3:Int),(1:Int)]:Z)).length/\ ∀e12,(([(2:Int),(2:Int),(2:Int),(3:Int),(1:Int)]:Z))[(cW l u).1.toNat]? =some e12->(0<=((cW l u).1)/\([[.str (⟨#[114]⟩:E)],[.str (⟨#[115]⟩:E)],[.str (⟨#[116]⟩:E)],[.str (⟨#[117]⟩:E)],[.str (⟨#[118]⟩:E)]]:List (List bX)).length=5/\((cW l u).1)<((5:Nat):Int)/\([[.str (⟨#[114]⟩:E)],[.str (⟨#[115]⟩:E)],[.str (⟨#[116]⟩:E)],[.str (⟨#[117]⟩:E)],[.str (⟨#[118]⟩:E)]]=([(⟨#[114]⟩:E),(⟨#[115]⟩:E),(⟨#[116]⟩:E),(⟨#[117]⟩:E),(⟨#[118]⟩:E)]:List E).map iG/\(cW l u).1.toNat<(([(⟨#[114]⟩:E),(⟨#[115]⟩:E),(⟨#[116]⟩:E),(⟨#[117]⟩:E),(⟨#[118]⟩:E)]:List E)).length/\ ∀e16,(([(⟨#[114]⟩:E),(⟨#[115]⟩:E),(⟨#[116]⟩:E),(⟨#[117]⟩:E),(⟨#[118]⟩:E)]:List E))[(cW l u).1.toNat]? =some e16->(eQ l ((cW l u).2) e12/\e12=e12/\aGI l ((cW l u).2) (((∃(i:Nat),0=(i:Int)/\e16=e16/\((aC l ((cW l u).2) e12).1)=((aC l (cW l u).2 e12).1)/\[]=((cX l (aC l (cW l u).2 e12).1 i ([],(aC l (cW l u).2 e12).2)).1).map intD/\aGH l ((aC l ((cW l u).2) e12).2) ((cX l (aC l (cW l u).2 e12).1 i ([],(aC l (cW l u).2 e12).2)).2) ((i:Int)<=max 0 e12))/\ ∀(i:Nat),(i:Int)<=max 0 e12->Br ((i:Int)<e12) (Nb ((i:Int)=((aC l (cW l u).2 e12).1)) (jR l ((cX l (aC l (cW l u).2 e12).1 i ([],(aC l (cW l u).2 e12).2)).2) (2:Int)/\(2:Int)=2/\aGI l ((cX l (aC l (cW l u).2 e12).1 i ([],(aC l (cW l u).2 e12).2)).2) (Br ((aC l ((cX l (aC l (cW l u).2 e12).1 i ([],(aC l (cW l u).2 e12).2)).2) (2:Int)).1=0) (Ap intD ((cX l (aC l (cW l u).2 e12).1 i ([],(aC l (cW l u).2 e12).2)).1) ([(i:Int)]:Z) 8 (bO ((i:Int)+1)/\ ∃(i' :Nat),((i:Int)+1)=(i' :Int)/\e16=e16/\((aC l (cW l u).2 e12).1)=((aC l (cW l u).2 e12).1)/\(((cX l (aC l (cW l u).2 e12).1 i ([],(aC l (cW l u).2 e12).2)).1)++[(i:Int)]).map intD=((cX l (aC l (cW l u).2 e12).1 i' ([],(aC l (cW l u).2 e12).2)).1).map intD/\aGH l ((aC l ((cX l (aC l (cW l u).2 e12).1 i ([],(aC l (cW l u).2 e12).2)).2) (2:Int)).2) ((cX l (aC l (cW l u).2 e12).1 i' ([],(aC l (cW l u).2 e12).2)).2) ((i' :Int)<=max 0 e12/\(e12 - i').toNat<(e12 - i).toNat))) (bO ((i:Int)+1)/\ ∃(i' :Nat),((i:Int)+1)=(i' :Int)/\e16=e16/\((aC l (cW l u).2 e12).1)=((aC l (cW l u).2 e12).1)/\((cX l (aC l (cW l u).2 e12).1 i ([],(aC l (cW l u).2 e12).2)).1).map intD=((cX l (aC l (cW l u).2 e12).1 i' ([],(aC l (cW l u).2 e12).2)).1).map intD/\aGH l ((aC l ((cX l (aC l (cW l u).2 e12).1 i ([],(aC l (cW l u).2 e12).2)).2) (2:Int)).2) ((cX l (aC l (cW l u).2 e12).1 i' ([],(aC l (cW l u).2 e12).2)).2) ((i' :Int)<=max 0 e12/\(e12 - i').toNat<(e12 - i).toNat)))) (bO ((i:Int)+1)/\ ∃(i' :Nat),((i:Int)+1)=(i' :Int)/\e16=e16/\((aC l (cW l u).2 e12).1)=((aC l (cW l u).2 e12).1)/\((cX l (aC l (cW l u).2 e12).1 i ([],(aC l (cW l u).2 e12).2)).1).map intD=((cX l (aC l (cW l u).2 e12).1 i' ([],(aC l (cW l u).2 e12).2)).1).map intD/\aGH l ((cX l (aC l (cW l u).2 e12).1 i ([],(aC l (cW l u).2 e12).2)).2) ((cX l (aC l (cW l u).2 e12).1 i' ([],(aC l (cW l u).2 e12).2)).2) ((i' :Int)<=max 0 e12/\(e12 - i').toNat<(e12 - i).toNat))) (jR l ((cX l (aC l (cW l u).2 e12).1 i ([],(aC l (cW l u).2 e12).2)).2) (14:Int)/\(14:Int)=14/\aGI l ((cX l (aC l (cW l u).2 e12).1 i ([],(aC l (cW l u).2 e12).2)).2) (Br ((aC l ((cX l (aC l (cW l u).2 e12).1 i ([],(aC l (cW l u).2 e12).2)).2) (14:Int)).1=0) (kK l ((aC l ((cX l (aC l (cW l u).2 e12).1 i ([],(aC l (cW l u).2 e12).2)).2) (14:Int)).2) ([(-1:Int),(3:Int),(0:Int)]:Z)/\aGI l ((aC l ((cX l (aC l (cW l u).2 e12).1 i ([],(aC l (cW l u).2 e12).2)).2) (14:Int)).2) ([[.int .i64 (-1:Int)],[.int .i64 (3:Int)],[.int .i64 (0:Int)]]=([(-1:Int),(3:Int),(0:Int)]:Z).map intD/\jR l ((bZ l ((aC l ((cX l (aC l (cW l u).2 e12).1 i ([],(aC l (cW l u).2 e12).2)).2) (14:Int)).2) ([(-1:Int),(3:Int),(0:Int)]:Z)).2) (16:Int)/\(16:Int)=16/\aGI l ((bZ l ((aC l ((cX l (aC l (cW l u).2 e12).1 i ([],(aC l (cW l u).2 e12).2)).2) (14:Int)).2) ([(-1:Int),(3:Int),(0:Int)]:Z)).2) (Br ((aC l ((bZ l ((aC l ((cX l (aC l (cW l u).2 e12).1 i ([],(aC l (cW l u).2 e12).2)).2) (14:Int)).2) ([(-1:Int),(3:Int),(0:Int)]:Z)).2) (16:Int)).1=0) (kK l ((aC l ((bZ l ((aC l ((cX l (aC l (cW l u).2 e12).1 i ([],(aC l (cW l u).2 e12).2)).2) (14:Int)).2) ([(-1:Int),(3:Int),(0:Int)]:Z)).2) (16:Int)).2) ([(-1:Int),(0:Int),(3:Int),(9223372036854775807:Int)]:Z)/\aGI l ((aC l ((bZ l ((aC l ((cX l (aC l (cW l u).2 e12).1 i ([],(aC l (cW l u).2 e12).2)).2) (14:Int)).2) ([(-1:Int),(3:Int),(0:Int)]:Z)).2) (16:Int)).2) ([[.int .i64 (-1:Int)],[.int .i64 (0:Int)],[.int .i64 (3:Int)],[.int .i64 (9223372036854775807:Int)]]=([(-1:Int),(0:Int),(3:Int),(9223372036854775807:Int)]:Z).map intD/\Ap intD ((cX l (aC l (cW l u).2 e12).1 i ([],(aC l (cW l u).2 e12).2)).1) ([(bZ l ((aC l ((bZ l ((aC l ((cX l (aC l (cW l u).2 e12).1 i ([],(aC l (cW l u).2 e12).2)).2) (14:Int)).2) ([(-1:Int),(3:Int),(0:Int)]:Z)).2) (16:Int)).2) ([(-1:Int),(0:Int),(3:Int),(9223372036854775807:Int)]:Z)).1]:Z) 8 (e16=((fJ l u).1.name)/\((bZ l ((aC l ((cX l (aC l (cW l u).2 e12).1 i ([],(aC l (cW l u).2 e12).2)).2) (14:Int)).2) ([(-1:Int),(3:Int),(0:Int)]:Z)).1)=((fJ l u).1.dst)/\aGH l ((bZ l ((aC l ((bZ l ((aC l ((cX l (aC l (cW l u).2 e12).1 i ([],(aC l (cW l u).2 e12).2)).2) (14:Int)).2) ([(-1:Int),(3:Int),(0:Int)]:Z)).2) (16:Int)).2) ([(-1:Int),(0:Int),(3:Int),(9223372036854775807:Int)]:Z)).2) ((fJ l u).2) ((((cX l (aC l (cW l u).2 e12).1 i ([],(aC l (cW l u).2 e12).2)).1)++[(bZ l ((aC l ((bZ l ((aC l ((cX l (aC l (cW l u).2 e12).1 i ([],(aC l (cW l u).2 e12).2)).2) (14:Int)).2) ([(-1:Int),(3:Int),(0:Int)]:Z)).2) (16:Int)).2) ([(-1:Int),(0:Int),(3:Int),(9223372036854775807:Int)]:Z)).1]).map intD=(fJ l u).1.src.map intD/\True)))) (e16=((fJ l u).1.name)/\((bZ l ((aC l ((cX l (aC l (cW l u).2 e12).1 i ([],(aC l (cW l u).2 e12).2)).2) (14:Int)).2) ([(-1:Int),(3:Int),(0:Int)]:Z)).1)=((fJ l u).1.dst)/\aGH l ((aC l ((bZ l ((aC l ((cX l (aC l (cW l u).2 e12).1 i ([],(aC l (cW l u).2 e12).2)).2) (14:Int)).2) ([(-1:Int),(3:Int),(0:Int)]:Z)).2) (16:Int)).2) ((fJ l u).2) (((cX l (aC l (cW l u).2 e12).1 i ([],(aC l (cW l u).2 e12).2)).1).map intD=(fJ l u).1.src.map intD/\True))))) (jR l ((aC l ((cX l (aC l (cW l u).2 e12).1 i ([],(aC l (cW l u).2 e12).2)).2) (14:Int)).2) (16:Int)/\(16:Int)=16/\aGI l ((aC l ((cX l (aC l (cW l u).2 e12).1 i ([],(aC l (cW l u).2 e12).2)).2) (14:Int)).2) (Br ((aC l ((aC l ((cX l (aC l (cW l u).2 e12).1 i ([],(aC l (cW l u).2 e12).2)).2) (14:Int)).2) (16:Int)).1=0) (kK l ((aC l ((aC l ((cX l (aC l (cW l u).2 e12).1 i ([],(aC l (cW l u).2 e12).2)).2) (14:Int)).2) (16:Int)).2) ([(-1:Int),(0:Int),(3:Int),(9223372036854775807:Int)]:Z)/\aGI l ((aC l ((aC l ((cX l (aC l (cW l u).2 e12).1 i ([],(aC l (cW l u).2 e12).2)).2) (14:Int)).2) (16:Int)).2) ([[.int .i64 (-1:Int)],[.int .i64 (0:Int)],[.int .i64 (3:Int)],[.int .i64 (9223372036854775807:Int)]]=([(-1:Int),(0:Int),(3:Int),(9223372036854775807:Int)]:Z).map intD/\Ap intD ((cX l (aC l (cW l u).2 e12).1 i ([],(aC l (cW l u).2 e12).2)).1) ([(bZ l ((aC l ((aC l ((cX l (aC l (cW l u).2 e12).1 i ([],(aC l (cW l u).2 e12).2)).2) (14:Int)).2) (16:Int)).2) ([(-1:Int),(0:Int),(3:Int),(9223372036854775807:Int)]:Z)).1]:Z) 8 (e16=((fJ l u).1.name)/\((aC l (cW l u).2 e12).1)=((fJ l u).1.dst)/\aGH l ((bZ l ((aC l ((aC l ((cX l (aC l (cW l u).2 e12).1 i ([],(aC l (cW l u).2 e12).2)).2) (14:Int)).2) (16:Int)).2) ([(-1:Int),(0:Int),(3:Int),(9223372036854775807:Int)]:Z)).2) ((fJ l u).2) ((((cX l (aC l (cW l u).2 e12).1 i ([],(aC l (cW l u).2 e12).2)).1)++[(bZ l ((aC l ((aC l ((cX l (aC l (cW l u).2 e12).1 i ([],(aC l (cW l u).2 e12).2)).2) (14:Int)).2) (16:Int)).2) ([(-1:Int),(0:Int),(3:Int),(9223372036854775807:Int)]:Z)).1]).map intD=(fJ l u).1.src.map intD/\True)))) (e16=((fJ l u).1.name)/\((aC l (cW l u).2 e12).1)=((fJ l u).1.dst)/\aGH l ((aC l ((aC l ((cX l (aC l (cW l u).2 e12).1 i ([],(aC l (cW l u).2 e12).2)).2) (14:Int)).2) (16:Int)).2) ((fJ l u).2) (((cX l (aC l (cW l u).2 e12).1 i ([],(aC l (cW l u).2 e12).2)).1).map intD=(fJ l u).1.src.map intD/\True))))))))))))))) ?_;have w0:0<=(cW l u).1/\(cW l u).1<5:=fB l u (n:=5) aGR;refine⟨hZ l u (by assumption) (5:Int),rfl,rfl,rfl,rfl,aGR,rfl,aGR,rfl,by (simp;omega),fun e12 h12=>?_⟩;have hm:deM l u=e12:=bK h12;have hm3:=FG (cW l u).1.toNat;rw[show TT.getD (cW l u).1.toNat 0=e12 from hm] at hm3;refine⟨aGR,rfl,aGR,rfl,by (simp;omega),fun e16 h16=>?_⟩;have hn:deN l u=e16:=bK h16;refine⟨hZ l ((cW l u).2) (by assumption) e12,rfl,rfl,rfl,rfl,⟨0,(by rfl),(by rfl),(by rfl),(by rfl),(by rfl),(by rfl),(by rfl),aGR⟩,fun i hi=>?_⟩;have hz:=KF l (aC l (cW l u).2 e12).1 ([],(aC l (cW l u).2 e12).2) i;simp only[List.length_nil] at hz;apply dd<;>intro c0
 ·apply dn<;>intro g30
  ·refine⟨pI l ((cX l (aC l (cW l u).2 e12).1 i ([],(aC l (cW l u).2 e12).2)).2) (by assumption) (2:Int),rfl,rfl,rfl,rfl,dd (fun c1=>?_) fun c1=>?_⟩
   ·refine ap ?_ (fun _=>rfl) (by (simp;omega));refine⟨aGS,?_⟩;exact⟨i+1,(by rfl),(by rfl),(by rfl),(by (rw[Tc g30 c1]<;>rfl)),(by rfl),(by (rw[Tc g30 c1]<;>rfl)),(by (rw[Tc g30 c1]<;>rfl)),aGR,aGR⟩
   ·refine⟨aGS,?_⟩;exact⟨i+1,(by rfl),(by rfl),(by rfl),(by (rw[Td g30 c1]<;>rfl)),(by rfl),(by (rw[Td g30 c1]<;>rfl)),(by (rw[Td g30 c1]<;>rfl)),aGR,aGR⟩
  ·refine⟨aGS,?_⟩;exact⟨i+1,(by rfl),(by rfl),(by rfl),(by (rw[Ta g30]<;>rfl)),(by rfl),(by (rw[Ta g30]<;>rfl)),(by (rw[Ta g30]<;>rfl)),aGR,aGR⟩
 ·have ei:e12.toNat=i:=aGR
  refine⟨pI l ((cX l (aC l (cW l u).2 e12).1 i ([],(aC l (cW l u).2 e12).2)).2) (by assumption) (14:Int),rfl,rfl,rfl,rfl,dd (fun c2=>?_) fun c2=>?_⟩
  ·refine⟨qS l ((aC l ((cX l (aC l (cW l u).2 e12).1 i ([],(aC l (cW l u).2 e12).2)).2) (14:Int)).2) (by assumption) ([(-1:Int),(3:Int),(0:Int)]:Z) (by decide),rfl,rfl,rfl,rfl,pI l ((bZ l ((aC l ((cX l (aC l (cW l u).2 e12).1 i ([],(aC l (cW l u).2 e12).2)).2) (14:Int)).2) ([(-1:Int),(3:Int),(0:Int)]:Z)).2) (by assumption) (16:Int),rfl,rfl,rfl,rfl,dd (fun c3=>?_) fun c3=>?_⟩
   ·refine⟨qS l ((aC l ((bZ l ((aC l ((cX l (aC l (cW l u).2 e12).1 i ([],(aC l (cW l u).2 e12).2)).2) (14:Int)).2) ([(-1:Int),(3:Int),(0:Int)]:Z)).2) (16:Int)).2) (by assumption) ([(-1:Int),(0:Int),(3:Int),(9223372036854775807:Int)]:Z) (by decide),rfl,rfl,rfl,rfl,?_⟩;refine ap ?_ (fun _=>rfl) (by (simp;omega));refine⟨?_,?_,rfl,?_,?_,?_,trivial⟩<;>((subst hm;subst ei;subst hn;(rw[aEd c2 c3]<;>rfl)))
   ·refine⟨?_,?_,rfl,?_,?_,?_,trivial⟩<;>((subst hm;subst ei;subst hn;(rw[aEe c2 c3]<;>rfl)))
  ·refine⟨pI l ((aC l ((cX l (aC l (cW l u).2 e12).1 i ([],(aC l (cW l u).2 e12).2)).2) (14:Int)).2) (by assumption) (16:Int),rfl,rfl,rfl,rfl,dd (fun c3=>?_) fun c3=>?_⟩
   ·refine⟨qS l ((aC l ((aC l ((cX l (aC l (cW l u).2 e12).1 i ([],(aC l (cW l u).2 e12).2)).2) (14:Int)).2) (16:Int)).2) (by assumption) ([(-1:Int),(0:Int),(3:Int),(9223372036854775807:Int)]:Z) (by decide),rfl,rfl,rfl,rfl,?_⟩;refine ap ?_ (fun _=>rfl) (by (simp;omega));refine⟨?_,?_,rfl,?_,?_,?_,trivial⟩<;>((subst hm;subst ei;subst hn;(rw[aEf c2 c3]<;>rfl)))
   ·refine⟨?_,?_,rfl,?_,?_,?_,trivial⟩<;>((subst hm;subst ei;subst hn;(rw[aEg c2 c3]<;>rfl)))
def Cf {n:E}{x:Int}(h:(n.toList==(⟨#[118]⟩:E).toList)=true):DC n x=0:=by
 rw[mO] at h;rw[DC,if_pos (of_decide_eq_true h)]
def Cg {n:E}{x:Int}(h:(n.toList==(⟨#[118]⟩:E).toList)=false):DC n x=x:=by
 rw[mO] at h;rw[DC,if_neg (of_decide_eq_false h)]
def VD {l:Z}{u:Cu}(h:(gV l u).1=0):eD l u=(⟨(IJ l u).1,(bZ l (gV l u).2 [-1,3]).1,(GN l u).1,DC (GN l u).1 (Ab l u).1⟩,(bZ l (gV l u).2 [-1,3]).2):=by rw[eD,if_pos h]
def VE {l:Z}{u:Cu}(h: ¬(gV l u).1=0):eD l u=(⟨(IJ l u).1,DC (IJ l u).1 (Xi l u).1,(GN l u).1,DC (GN l u).1 (Ab l u).1⟩,(gV l u).2):=by rw[eD,if_neg h]
abbrev Ch (l:Z)(u:Cu):List AV × aGJ × AV × aGJ:=([.ptr 0 0],[(0,.box 102 [.p none (.sl 5 1 (l.map bQ)),vI (u.i:Int),vI u.h])],.agg [.p none (.str ((eD l u).1.name)),vI ((eD l u).1.H),.p none (.str ((eD l u).1.I)),vI ((eD l u).1.B)],[(0,.box 102 [.p none (.sl 5 1 (l.map bQ)),vI (((eD l u).2.i:Nat):Int),vI ((eD l u).2.h)])])
abbrev PF (l:Z)(u:Cu):Prop:=Cm 104 (Ch l u).1 (Ch l u).2.1 (Ch l u).2.2.1 (Ch l u).2.2.2
def aDT (l:Z)(u:Cu)(hl:l.length<=1048576):PF l u:=by
 refine Ls Tryz.func104 (bH (mC l u ([(⟨#[114]⟩:E),(⟨#[115]⟩:E),(⟨#[116]⟩:E),(⟨#[117]⟩:E),(⟨#[118]⟩:E)]:List E)) [(0,0),(1,500)]<| bH (dX l ((IJ l u).2) (2:Int)) [(0,0)]<| bH (mC l ((Xi l u).2) ([(⟨#[114]⟩:E),(⟨#[115]⟩:E),(⟨#[116]⟩:E),(⟨#[117]⟩:E),(⟨#[118]⟩:E)]:List E)) [(0,0),(1,1000)]<| bH (dX l ((GN l u).2) (2:Int)) [(0,0)]<| .br (.br (bH (iA l ((Ab l u).2) (14:Int)) [(0,0)]<| .br (bH (iK l ((gV l u).2) ([(-1:Int),(3:Int)]:Z)) [(0,0),(1,2600)]<| .fin [(0,0)]) (.fin [(0,0)])) (bH (iA l ((Ab l u).2) (14:Int)) [(0,0)]<| .br (bH (iK l ((gV l u).2) ([(-1:Int),(3:Int)]:Z)) [(0,0),(1,2600)]<| .fin [(0,0)]) (.fin [(0,0)]))) (.br (bH (iA l ((Ab l u).2) (14:Int)) [(0,0)]<| .br (bH (iK l ((gV l u).2) ([(-1:Int),(3:Int)]:Z)) [(0,0),(1,2600)]<| .fin [(0,0)]) (.fin [(0,0)])) (bH (iA l ((Ab l u).2) (14:Int)) [(0,0)]<| .br (bH (iK l ((gV l u).2) ([(-1:Int),(3:Int)]:Z)) [(0,0),(1,2600)]<| .fin [(0,0)]) (.fin [(0,0)])))) (p:=pX l u ([(⟨#[114]⟩:E),(⟨#[115]⟩:E),(⟨#[116]⟩:E),(⟨#[117]⟩:E),(⟨#[118]⟩:E)]:List E)/\aGI l u ([[.str (⟨#[114]⟩:E)],[.str (⟨#[115]⟩:E)],[.str (⟨#[116]⟩:E)],[.str (⟨#[117]⟩:E)],[.str (⟨#[118]⟩:E)]]=([(⟨#[114]⟩:E),(⟨#[115]⟩:E),(⟨#[116]⟩:E),(⟨#[117]⟩:E),(⟨#[118]⟩:E)]:List E).map iG/\eQ l ((IJ l u).2) (2:Int)/\(2:Int)=2/\aGI l ((IJ l u).2) (pX l ((Xi l u).2) ([(⟨#[114]⟩:E),(⟨#[115]⟩:E),(⟨#[116]⟩:E),(⟨#[117]⟩:E),(⟨#[118]⟩:E)]:List E)/\aGI l ((Xi l u).2) ([[.str (⟨#[114]⟩:E)],[.str (⟨#[115]⟩:E)],[.str (⟨#[116]⟩:E)],[.str (⟨#[117]⟩:E)],[.str (⟨#[118]⟩:E)]]=([(⟨#[114]⟩:E),(⟨#[115]⟩:E),(⟨#[116]⟩:E),(⟨#[117]⟩:E),(⟨#[118]⟩:E)]:List E).map iG/\eQ l ((GN l u).2) (2:Int)/\(2:Int)=2/\aGI l ((GN l u).2) (Bb ((IJ l u).1.toList==(⟨#[118]⟩:E).toList) (Bb ((GN l u).1.toList==(⟨#[118]⟩:E).toList) (jR l ((Ab l u).2) (14:Int)/\(14:Int)=14/\aGI l ((Ab l u).2) (Br ((gV l u).1=0) (kK l ((gV l u).2) ([(-1:Int),(3:Int)]:Z)/\aGI l ((gV l u).2) ([[.int .i64 (-1:Int)],[.int .i64 (3:Int)]]=([(-1:Int),(3:Int)]:Z).map intD/\((IJ l u).1)=((eD l u).1.name)/\((bZ l ((gV l u).2) ([(-1:Int),(3:Int)]:Z)).1)=((eD l u).1.H)/\((GN l u).1)=((eD l u).1.I)/\0=((eD l u).1.B)/\aGH l ((bZ l ((gV l u).2) ([(-1:Int),(3:Int)]:Z)).2) ((eD l u).2) (True))) (((IJ l u).1)=((eD l u).1.name)/\0=((eD l u).1.H)/\((GN l u).1)=((eD l u).1.I)/\0=((eD l u).1.B)/\aGH l ((gV l u).2) ((eD l u).2) (True)))) (jR l ((Ab l u).2) (14:Int)/\(14:Int)=14/\aGI l ((Ab l u).2) (Br ((gV l u).1=0) (kK l ((gV l u).2) ([(-1:Int),(3:Int)]:Z)/\aGI l ((gV l u).2) ([[.int .i64 (-1:Int)],[.int .i64 (3:Int)]]=([(-1:Int),(3:Int)]:Z).map intD/\((IJ l u).1)=((eD l u).1.name)/\((bZ l ((gV l u).2) ([(-1:Int),(3:Int)]:Z)).1)=((eD l u).1.H)/\((GN l u).1)=((eD l u).1.I)/\((Ab l u).1)=((eD l u).1.B)/\aGH l ((bZ l ((gV l u).2) ([(-1:Int),(3:Int)]:Z)).2) ((eD l u).2) (True))) (((IJ l u).1)=((eD l u).1.name)/\0=((eD l u).1.H)/\((GN l u).1)=((eD l u).1.I)/\((Ab l u).1)=((eD l u).1.B)/\aGH l ((gV l u).2) ((eD l u).2) (True))))) (Bb ((GN l u).1.toList==(⟨#[118]⟩:E).toList) (jR l ((Ab l u).2) (14:Int)/\(14:Int)=14/\aGI l ((Ab l u).2) (Br ((gV l u).1=0) (kK l ((gV l u).2) ([(-1:Int),(3:Int)]:Z)/\aGI l ((gV l u).2) ([[.int .i64 (-1:Int)],[.int .i64 (3:Int)]]=([(-1:Int),(3:Int)]:Z).map intD/\((IJ l u).1)=((eD l u).1.name)/\((bZ l ((gV l u).2) ([(-1:Int),(3:Int)]:Z)).1)=((eD l u).1.H)/\((GN l u).1)=((eD l u).1.I)/\0=((eD l u).1.B)/\aGH l ((bZ l ((gV l u).2) ([(-1:Int),(3:Int)]:Z)).2) ((eD l u).2) (True))) (((IJ l u).1)=((eD l u).1.name)/\((Xi l u).1)=((eD l u).1.H)/\((GN l u).1)=((eD l u).1.I)/\0=((eD l u).1.B)/\aGH l ((gV l u).2) ((eD l u).2) (True)))) (jR l ((Ab l u).2) (14:Int)/\(14:Int)=14/\aGI l ((Ab l u).2) (Br ((gV l u).1=0) (kK l ((gV l u).2) ([(-1:Int),(3:Int)]:Z)/\aGI l ((gV l u).2) ([[.int .i64 (-1:Int)],[.int .i64 (3:Int)]]=([(-1:Int),(3:Int)]:Z).map intD/\((IJ l u).1)=((eD l u).1.name)/\((bZ l ((gV l u).2) ([(-1:Int),(3:Int)]:Z)).1)=((eD l u).1.H)/\((GN l u).1)=((eD l u).1.I)/\((Ab l u).1)=((eD l u).1.B)/\aGH l ((bZ l ((gV l u).2) ([(-1:Int),(3:Int)]:Z)).2) ((eD l u).2) (True))) (((IJ l u).1)=((eD l u).1.name)/\((Xi l u).1)=((eD l u).1.H)/\((GN l u).1)=((eD l u).1.I)/\((Ab l u).1)=((eD l u).1.B)/\aGH l ((gV l u).2) ((eD l u).2) (True)))))))))) ?_;refine⟨zI l u (by assumption) ([(⟨#[114]⟩:E),(⟨#[115]⟩:E),(⟨#[116]⟩:E),(⟨#[117]⟩:E),(⟨#[118]⟩:E)]:List E) (by decide),rfl,rfl,rfl,rfl,hZ l ((IJ l u).2) (by assumption) (2:Int),rfl,rfl,rfl,rfl,zI l ((Xi l u).2) (by assumption) ([(⟨#[114]⟩:E),(⟨#[115]⟩:E),(⟨#[116]⟩:E),(⟨#[117]⟩:E),(⟨#[118]⟩:E)]:List E) (by decide),rfl,rfl,rfl,rfl,hZ l ((GN l u).2) (by assumption) (2:Int),rfl,rfl,rfl,rfl,db (fun c0=>?_) fun c0=>?_⟩
 ·apply db<;>intro c1
  ·refine⟨pI l ((Ab l u).2) (by assumption) (14:Int),rfl,rfl,rfl,rfl,dd (fun c2=>?_) fun c2=>?_⟩
   ·refine⟨qS l ((gV l u).2) (by assumption) ([(-1:Int),(3:Int)]:Z) (by decide),rfl,rfl,rfl,rfl,?_,?_,?_,?_,rfl,?_,?_,trivial⟩<;>((rw[VD c2]<;>exact(Cf c1).symm))
   ·refine⟨?_,?_,?_,?_,rfl,?_,?_,trivial⟩<;>((rw[VE c2]<;>first|exact(Cf c0).symm|exact(Cf c1).symm))
  ·refine⟨pI l ((Ab l u).2) (by assumption) (14:Int),rfl,rfl,rfl,rfl,dd (fun c2=>?_) fun c2=>?_⟩
   ·refine⟨qS l ((gV l u).2) (by assumption) ([(-1:Int),(3:Int)]:Z) (by decide),rfl,rfl,rfl,rfl,?_,?_,?_,?_,rfl,?_,?_,trivial⟩<;>((rw[VD c2]<;>exact(Cg c1).symm))
   ·refine⟨?_,?_,?_,?_,rfl,?_,?_,trivial⟩<;>((rw[VE c2]<;>first|exact(Cf c0).symm|exact(Cg c1).symm))
 ·apply db<;>intro c1
  ·refine⟨pI l ((Ab l u).2) (by assumption) (14:Int),rfl,rfl,rfl,rfl,dd (fun c2=>?_) fun c2=>?_⟩
   ·refine⟨qS l ((gV l u).2) (by assumption) ([(-1:Int),(3:Int)]:Z) (by decide),rfl,rfl,rfl,rfl,?_,?_,?_,?_,rfl,?_,?_,trivial⟩<;>((rw[VD c2]<;>exact(Cf c1).symm))
   ·refine⟨?_,?_,?_,?_,rfl,?_,?_,trivial⟩<;>((rw[VE c2]<;>first|exact(Cg c0).symm|exact(Cf c1).symm))
  ·refine⟨pI l ((Ab l u).2) (by assumption) (14:Int),rfl,rfl,rfl,rfl,dd (fun c2=>?_) fun c2=>?_⟩
   ·refine⟨qS l ((gV l u).2) (by assumption) ([(-1:Int),(3:Int)]:Z) (by decide),rfl,rfl,rfl,rfl,?_,?_,?_,?_,rfl,?_,?_,trivial⟩<;>((rw[VD c2]<;>exact(Cg c1).symm))
   ·refine⟨?_,?_,?_,?_,rfl,?_,?_,trivial⟩<;>((rw[VE c2]<;>first|exact(Cg c0).symm|exact(Cg c1).symm))
abbrev Dy (x:aQ):AV × aGJ:=(.agg [.p none (.str x.name),vI x.l,vI x.A,.own 0],[(0,.arr 187 3 true (x.t.map aL))])
abbrev KY (x:aQ):Prop:=Cn 172 [aGZ x] (Dy x).1 (Dy x).2
def Zq (x:aQ)(hc:cP x<=1048576):KY x:=by
 refine cq Tryz.func172 (.loop (Nat × (List aY)) (Q2 Nat (List aY)) ([4,5,6]++rg 14 57) [300,500,2100,2800,2900,3600,5100,6100,6200,6300,6800,6900,9000,9001] (fun yy0=>[(4,vI (yy0.1:Int))]) (fun yy0=>[(300,some (.box 112 [.p none (.str x.name),vI x.l,vI x.A,.own 9000])),(9000,some (.arr 187 3 true (yy0.2.map aL)))]) (fun yy0=>yy0.1<=x.t.length/\yy0.2=x.t.take yy0.1) (fun yy0=>x.t.length - yy0.1) (fun yy0=> .len x.t.length<| .br (.elem _ aL x.t (fun e25=> .app Int intD ([]:Z) e25.C<| .elem _ aL x.t (fun e33=> .app Int intD ([]:Z) e33.counts<| .loop (Nat × (List Z)) (Q2 Nat (List Z)) ([6]++rg 38 27) [500,5100,6100,6200,6300,9001] (fun yy1=>[(6,vI (yy1.1:Int))]) (fun yy1=>[(500,some (.box 187 [.own 2800,.own 9001,.own 3600])),(9001,some (.arr 51 1 true (yy1.2.map aD)))]) (fun yy1=>yy1.1<=e25.values.length/\yy1.2=e25.values.take yy1.1) (fun yy1=>e25.values.length - yy1.1) (fun yy1=> .elem _ aL x.t (fun e42=> .len e42.values.length<| .br (.elem _ aL x.t (fun e55=> .elem _ aD e55.values (fun e59=> .app Int intD ([]:Z) e59<| .appx Z aD yy1.2 (([]:Z)++e59)<| .back [(500,500),(9001,6300)]))) (.appx aY aL yy0.2 (⟨([]:Z)++e25.C,yy1.2,([]:Z)++e33.counts⟩:aY)<| .back [(300,300),(9000,6900)])))))) (.fin [(0,9000)]))) (p:=Lx (x.t.map aL)<| (∃(k:Nat) (out:List aY),0=(k:Int)/\x.name=x.name/\x.l=x.l/\x.A=x.A/\[]=out.map aL/\k<=x.t.length/\out=x.t.take k)/\ ∀(k:Nat) (out:List aY),(k<=x.t.length/\out=x.t.take k)->Lm aL x.t/\Br ((k:Int)<(x.t.length:Int)) (0<=(k:Int)/\Em aL x.t k fun e25=>Ap intD ([]:Z) e25.C 8 (0<=(k:Int)/\Em aL x.t k fun e33=>Ap intD ([]:Z) e33.counts 8 ((∃(i:Nat) (v:List Z),0=(i:Int)/\[]=v.map aD/\i<=e25.values.length/\v=e25.values.take i)/\ ∀(i:Nat) (v:List Z),(i<=e25.values.length/\v=e25.values.take i)->0<=(k:Int)/\Em aL x.t k fun e42=>Lm aD e42.values/\Br ((i:Int)<(e42.values.length:Int)) (0<=(k:Int)/\Em aL x.t k fun e55=>0<=(i:Int)/\Em aD e55.values i fun e59=>Ap intD ([]:Z) e59 8 (v.map aD=v.map aD/\(([]:Z)++e59).map intD=(([]:Z)++e59).map intD/\(v.length+1)*24<=140737488355328/\bO ((i:Int)+1)/\ ∃(i' :Nat) (v' :List Z),((i:Int)+1)=(i' :Int)/\(v++[([]:Z)++e59]).map aD=v'.map aD/\(i' <=e25.values.length/\v' =e25.values.take i')/\e25.values.length - i' <e25.values.length - i)) (out.map aL=out.map aL/\(([]:Z)++e25.C).map intD=(⟨([]:Z)++e25.C,v,([]:Z)++e33.counts⟩:aY).C.map intD/\v.map aD=(⟨([]:Z)++e25.C,v,([]:Z)++e33.counts⟩:aY).values.map aD/\(([]:Z)++e33.counts).map intD=(⟨([]:Z)++e25.C,v,([]:Z)++e33.counts⟩:aY).counts.map intD/\(out.length+1)*72<=140737488355328/\bO ((k:Int)+1)/\ ∃(k' :Nat) (out' :List aY),((k:Int)+1)=(k' :Int)/\x.name=x.name/\x.l=x.l/\x.A=x.A/\(out++[(⟨([]:Z)++e25.C,v,([]:Z)++e33.counts⟩:aY)]).map aL=out'.map aL/\(k' <=x.t.length/\out' =x.t.take k')/\x.t.length - k' <x.t.length - k)))) (x.name=x.name/\x.l=x.l/\x.A=x.A/\out.map aL=x.t.map aL/\True)) ?_;refine lx fun n0=>?_;have q2:cP x=x.name.size+jU x.t:=rfl;have q5:=lY x.t;refine⟨⟨0,([]:List aY),rfl,rfl,rfl,rfl,rfl,aBC _,rfl⟩,fun k out ⟨hk,ho⟩=>?_⟩;refine⟨aAb _,dd (fun c0=>?_) fun c0=>?_⟩
 ·refine⟨aGR,rfl,aGR,fun e25 h25=>?_⟩
  try (obtain rfl:=(bE h25 h25).symm)
  have q1:=kY h25;have q3:iV e25=eL e25.C+dG e25.values+eL e25.counts:=rfl;have q6:eL e25.C=e25.C.length:=rfl;have q7:eL e25.counts=e25.counts.length:=rfl;have q8:=gP e25.values;refine ap ?_ (fun _=>rfl) (by (simp;omega));refine⟨aGR,rfl,aGR,fun e33 h33=>?_⟩
  try (obtain rfl:=(bE h25 h33).symm)
  refine ap ?_ (fun _=>rfl) (by (simp;omega));refine⟨⟨0,([]:List Z),rfl,rfl,aBC _,rfl⟩,fun i v ⟨hi,hv⟩=>?_⟩;refine⟨aGR,rfl,aGR,fun e42 h42=>?_⟩
  try (obtain rfl:=(bE h25 h42).symm)
  refine⟨aAb _,dd (fun c1=>?_) fun c1=>?_⟩
  ·refine⟨aGR,rfl,aGR,fun e55 h55=>?_⟩
   try (obtain rfl:=(bE h25 h55).symm)
   refine⟨aGR,rfl,aGR,fun e59 h59=>?_⟩;have hp3:=CW h59;refine ap ?_ (fun _=>rfl) (by (simp;omega));refine⟨rfl,rfl,by (simp[hv];omega),aGS,?_⟩;exact⟨i+1,_,rfl,rfl,⟨aGR,by rw[hv,bW h59];rfl⟩,aGR⟩
  ·have hvv:v=e25.values:=by rw[hv,aCR aGR]
   refine⟨rfl,rfl,rfl,rfl,by (simp[ho];omega),aGS,?_⟩;exact⟨k+1,_,rfl,rfl,rfl,rfl,rfl,⟨aGR,by rw[ho,bW h25,hvv];rfl⟩,aGR⟩
 ·refine⟨rfl,rfl,rfl,?_,trivial⟩
  ·(rw[ho,aCR aGR])
abbrev BX (d:aU)(f:bB):AV × aGJ:=(.own 0,[(0,.arr 3 1 true ((mJ d f).map intD))])
abbrev HR (d:aU)(f:bB):Prop:=Cn 186 [.agg [.sl 155 3 (d.a.map aP)],aHE f] (BX d f).1 (BX d f).2
def Ww (d:aU)(f:bB)(hc:cC d<=1048576):HR d f:=by
 refine cq Tryz.func186 (.call (vB (jZ d f)) []<| .br (.fin []) (.call (.tup [.agg [.p none (.str ((aM d f.name).1.name)),vI ((aM d f.name).1.l),.p none (.sl 51 1 ((aM d f.name).1.rows.map aD))],vB ((aM d f.name).2)]) []<| .len ((aM d f.name).1.rows.length)<| .loop Nat (Q1 Nat) (rg 7 8++rg 29 45++[77,78]) [4800,5500] (fun k=>[(29,vI (k:Int))]) (fun k=>[]) (fun k=>k<=(aM d f.name).1.rows.length/\nH (aM d f.name).1.rows f.src f.dst k= []) (fun k=>(aM d f.name).1.rows.length - k) (fun k=> .br (.elem _ aD ((aM d f.name).1.rows) (fun e32=> .sub Z aD ((aM d f.name).1.rows)<| .len (((aM d f.name).1.rows.take k).length)<| .loop Nat (Q1 Nat) ([9,10,11,12,13,14]++rg 39 35++[77]) [4800,5500] (fun i=>[(39,vI (i:Int))]) (fun i=>[]) (fun i=>i<=k/\mW (aM d f.name).1.rows f.src f.dst k i= []) (fun i=>k - i) (fun i=> .br (.elem _ aD ((aM d f.name).1.rows.take k) (fun e42=>bN (rP e42 f.src)<| bN (rP e32 f.src)<| .call (vB (decide (((gT e42 f.src).1)=((gT e32 f.src).1)))) []<| .br (.elem _ intD e42 (fun e65=> .elem _ intD e32 (fun e70=> aGP<| .br (.fin [(0,7600)]) (.back [])))) (.back []))) (.back [])))) (.fin [])))) (p:=Lx (d.a.map aP)<| Lx (f.src.map intD)<| zD d f/\Nr (jZ d f) ([]=(mJ d f).map intD/\True) (xK Tryz.prog 117 [.agg [.sl 155 3 (d.a.map aP)],.one (.str f.name)] (.tup [.agg [.p none (.str ((aM d f.name).1.name)),vI ((aM d f.name).1.l),.p none (.sl 51 1 ((aM d f.name).1.rows.map aD))],vB ((aM d f.name).2)]) []/\(Lm aD ((aM d f.name).1.rows)/\((∃(k:Nat),0=(k:Int)/\k<=(aM d f.name).1.rows.length/\nH (aM d f.name).1.rows f.src f.dst k= [])/\ ∀(k:Nat),(k<=(aM d f.name).1.rows.length/\nH (aM d f.name).1.rows f.src f.dst k= [])->Br ((k:Int)<(((aM d f.name).1.rows.length:Nat):Int)) (0<=(k:Int)/\Em aD ((aM d f.name).1.rows) k fun e32=>(aM d f.name).1.rows.map aD=(aM d f.name).1.rows.map aD/\0<=(k:Int)/\(k:Int)<=(((aM d f.name).1.rows.length:Nat):Int)/\(Lm aD ((aM d f.name).1.rows.take k)/\((∃(i:Nat),0=(i:Int)/\i<=k/\mW (aM d f.name).1.rows f.src f.dst k i= [])/\ ∀(i:Nat),(i<=k/\mW (aM d f.name).1.rows f.src f.dst k i= [])->Br ((i:Int)<((((aM d f.name).1.rows.take k).length:Nat):Int)) (0<=(i:Int)/\Em aD ((aM d f.name).1.rows.take k) i fun e42=>uR e42 f.src/\uR e32 f.src/\tY ((gT e42 f.src).1) ((gT e32 f.src).1)/\Br (((gT e42 f.src).1)=((gT e32 f.src).1)) (0<=f.dst/\Em intD e42 ((f.dst).toNat) fun e65=>0<=f.dst/\Em intD e32 ((f.dst).toNat) fun e70=>Nb (e65=e70) ([[.int .i64 (i:Int)],[.int .i64 (k:Int)]]=(mJ d f).map intD/\True) (bO ((i:Int)+1)/\ ∃(i' :Nat),((i:Int)+1)=(i' :Int)/\(i' <=k/\mW (aM d f.name).1.rows f.src f.dst k i' = [])/\k - i' <k - i)) (bO ((i:Int)+1)/\ ∃(i' :Nat),((i:Int)+1)=(i' :Int)/\(i' <=k/\mW (aM d f.name).1.rows f.src f.dst k i' = [])/\k - i' <k - i)) (bO ((k:Int)+1)/\ ∃(k' :Nat),((k:Int)+1)=(k' :Int)/\(k' <=(aM d f.name).1.rows.length/\nH (aM d f.name).1.rows f.src f.dst k' = [])/\(aM d f.name).1.rows.length - k' <(aM d f.name).1.rows.length - k)))) ([]=(mJ d f).map intD/\True))))) ?_;refine lx fun n0=>lx fun n1=>?_;refine⟨J2 _ _ aGR,dm (fun c0=>?_) fun c0=>?_⟩
 ·have hbad:mJ d f= []:=by rw[mJ,if_neg (by simpa using c0)]
  apply et1
  ·(rw[hbad]<;>rfl)
 ·have hok:jZ d f=true:=by simpa using c0
  obtain⟨hT,hd0,hd1,hsl⟩:=G9 hok;have hT8:=cJ hT;have hV:mJ d f=nH (aM d f.name).1.rows f.src f.dst (aM d f.name).1.rows.length:=by rw[mJ,if_pos hok]
  refine⟨lV (uX _ f.name aGR) rfl,aAb _,⟨0,rfl,aBC _,rfl⟩,fun k ⟨hk,hv⟩=>?_⟩;apply dd<;>intro c1
  ·refine⟨aGR,rfl,aGR,fun e32 h32=>?_⟩;have hl32:=sJ hT (aBD h32);refine⟨rfl,aGR,aGR,aAb _,⟨0,rfl,aBC _,rfl⟩,fun i ⟨hi,hw⟩=>?_⟩;have htl:((aM d f.name).1.rows.take k).length=k:=by rw[aF5];omega
   apply dd<;>intro c2
   ·refine⟨aGR,rfl,aGR,fun e42 h42=>?_⟩;have hx:(aM d f.name).1.rows[i]? =some e42:=by rw[List.getElem?_take_of_lt aGR] at h42;exact h42
    have hl42:=sJ hT (aBD hx);have hb:=Uy (cols:=f.src) (c:=f.dst) hx h32;refine⟨Ey _ _ aGR,Ey _ _ aGR,Es _ _,dd (fun g61=>?_) fun g61=>?_⟩
    ·refine⟨aGR,rfl,aGR,fun e65 h65=>?_⟩;refine⟨aGR,rfl,aGR,fun e70 h70=>?_⟩;apply dn<;>intro c3
     ·have hB:TK (aM d f.name).1.rows f.src f.dst i k=true:=by rw[hb,bK h65,bK h70];simp[*]
      have hE:=J0 hv hw hB aGR (by omega:k<(aM d f.name).1.rows.length);apply et1
      ·(rw[hV,hE]<;>rfl)
     ·refine⟨aGS,?_⟩;exact⟨i+1,rfl,⟨aGR,FB hw (by rw[hb];(rw[bK h65,bK h70];simp[*];done))⟩,aGR⟩
    ·refine⟨aGS,?_⟩;exact⟨i+1,rfl,⟨aGR,FB hw (by rw[hb];(simp[g61];done))⟩,aGR⟩
   ·refine⟨aGS,?_⟩;exact⟨k+1,rfl,⟨aGR,J1 hv (by obtain rfl:i=k:=(by omega);exact hw)⟩,aGR⟩
  ·have hE:mJ d f= []:=by rw[hV,show (aM d f.name).1.rows.length=k by omega,hv]
   apply et1
   ·(rw[hE]<;>rfl)
abbrev BZ (d:aU)(f:bB):AV × aGJ:=(.own 0,[(0,.arr 3 1 true ((mJ d f).map intD))])
abbrev HT (d:aU)(f:bB):Prop:=Cn 140 [.agg [.sl 155 3 (d.a.map aP)],aHE f] (BZ d f).1 (BZ d f).2
def Wx (d:aU)(f:bB)(hc:cC d<=1048576):HT d f:=by
 refine cq Tryz.func140 (.call (.tup [.agg [.p none (.str ((aM d f.name).1.name)),vI ((aM d f.name).1.l),.p none (.sl 51 1 ((aM d f.name).1.rows.map aD))],vB ((aM d f.name).2)]) []<| .loop Nat (Q1 Nat) ([7,8,9,10,11,12]++rg 20 64) [4000,5600] (fun k=>[(7,vI (k:Int))]) (fun k=>[]) (fun k=>k<=(aM d f.name).1.rows.length/\nH (aM d f.name).1.rows f.src f.dst k= []) (fun k=>(aM d f.name).1.rows.length - k) (fun k=> .len ((aM d f.name).1.rows.length)<| .br (.call (vB (jZ d f)) []<| .lit<| .br (.elem _ aD ((aM d f.name).1.rows) (fun e36=>bN (rQ e36 f.src)<| .loop Nat (Q1 Nat) ([10,11,12]++rg 43 41) [5600] (fun i=>[(10,vI (i:Int))]) (fun i=>[]) (fun i=>i<=k/\mW (aM d f.name).1.rows f.src f.dst k i= []) (fun i=>k - i) (fun i=> .br (.elem _ aD ((aM d f.name).1.rows) (fun e52=>bN (rQ e52 f.src)<| .call (vI (cO ((gT e52 f.src).1) ((gT e36 f.src).1))) []<| .br (.elem _ aD ((aM d f.name).1.rows) (fun e67=> .elem _ intD e67 (fun e71=> .elem _ aD ((aM d f.name).1.rows) (fun e76=> .elem _ intD e76 (fun e80=> aGP<| .br (.fin [(0,8600)]) (.back [])))))) (.back []))) (.back [])))) (.fin [(0,8700)])) (.fin [(0,8700)]))) (p:=Lx (d.a.map aP)<| Lx (f.src.map intD)<| xK Tryz.prog 167 [.agg [.sl 155 3 (d.a.map aP)],.one (.str f.name)] (.tup [.agg [.p none (.str ((aM d f.name).1.name)),vI ((aM d f.name).1.l),.p none (.sl 51 1 ((aM d f.name).1.rows.map aD))],vB ((aM d f.name).2)]) []/\((∃(k:Nat),0=(k:Int)/\k<=(aM d f.name).1.rows.length/\nH (aM d f.name).1.rows f.src f.dst k= [])/\ ∀(k:Nat),(k<=(aM d f.name).1.rows.length/\nH (aM d f.name).1.rows f.src f.dst k= [])->Lm aD ((aM d f.name).1.rows)/\Br ((k:Int)<(((aM d f.name).1.rows.length:Nat):Int)) (zE d f/\Bb (jZ d f) (0<=(k:Int)/\Em aD ((aM d f.name).1.rows) k fun e36=>uS e36 f.src/\((∃(i:Nat),0=(i:Int)/\i<=k/\mW (aM d f.name).1.rows f.src f.dst k i= [])/\ ∀(i:Nat),(i<=k/\mW (aM d f.name).1.rows f.src f.dst k i= [])->Br ((i:Int)<(k:Int)) (0<=(i:Int)/\Em aD ((aM d f.name).1.rows) i fun e52=>uS e52 f.src/\gZ ((gT e52 f.src).1) ((gT e36 f.src).1)/\Br ((cO ((gT e52 f.src).1) ((gT e36 f.src).1))=0) (0<=(i:Int)/\Em aD ((aM d f.name).1.rows) i fun e67=>0<=f.dst/\Em intD e67 ((f.dst).toNat) fun e71=>0<=(k:Int)/\Em aD ((aM d f.name).1.rows) k fun e76=>0<=f.dst/\Em intD e76 ((f.dst).toNat) fun e80=>Nb (e71=e80) ([[.int .i64 (i:Int)],[.int .i64 (k:Int)]]=(mJ d f).map intD/\True) (bO ((i:Int)+1)/\ ∃(i' :Nat),((i:Int)+1)=(i' :Int)/\(i' <=k/\mW (aM d f.name).1.rows f.src f.dst k i' = [])/\k - i' <k - i)) (bO ((i:Int)+1)/\ ∃(i' :Nat),((i:Int)+1)=(i' :Int)/\(i' <=k/\mW (aM d f.name).1.rows f.src f.dst k i' = [])/\k - i' <k - i)) (bO ((k:Int)+1)/\ ∃(k' :Nat),((k:Int)+1)=(k' :Int)/\(k' <=(aM d f.name).1.rows.length/\nH (aM d f.name).1.rows f.src f.dst k' = [])/\(aM d f.name).1.rows.length - k' <(aM d f.name).1.rows.length - k))) ([]=(mJ d f).map intD/\True)) ([]=(mJ d f).map intD/\True))) ?_;refine lx fun n0=>lx fun n1=>?_;refine⟨lV (uY _ f.name aGR) rfl,⟨0,rfl,aBC _,rfl⟩,fun k ⟨hk,hv⟩=>?_⟩;refine⟨aAb _,dd (fun g25=>?_) fun g25=>?_⟩
 ·refine⟨J3 _ _ aGR,db (fun c0=>?_) fun c0=>?_⟩
  ·have hok:jZ d f=true:=c0;obtain⟨hT,hd0,hd1,hsl⟩:=G9 hok;have hT8:=cJ hT;have hV:mJ d f=nH (aM d f.name).1.rows f.src f.dst (aM d f.name).1.rows.length:=by rw[mJ,if_pos hok]
   refine⟨aGR,rfl,aGR,fun e36 h36=>?_⟩;have hl36:=sJ hT (aBD h36);refine⟨Ez _ _ aGR,⟨0,rfl,aBC _,rfl⟩,fun i ⟨hi,hw⟩=>?_⟩;apply dd<;>intro c1
   ·refine⟨aGR,rfl,aGR,fun e52 h52=>?_⟩;have hl52:=sJ hT (aBD h52);have hb:=Uy (cols:=f.src) (c:=f.dst) h52 h36;refine⟨Ez _ _ aGR,lC _ _,dd (fun g63=>?_) fun g63=>?_⟩
    ·refine⟨aGR,rfl,aGR,fun e67 h67=>?_⟩;obtain rfl:=(bE h52 h67).symm;refine⟨aGR,rfl,aGR,fun e71 h71=>?_⟩;refine⟨aGR,rfl,aGR,fun e76 h76=>?_⟩;obtain rfl:=(bE h36 h76).symm;refine⟨aGR,rfl,aGR,fun e80 h80=>?_⟩;apply dn<;>intro c2
     ·have hB:TK (aM d f.name).1.rows f.src f.dst i k=true:=by rw[hb,bK h71,bK h80,fW.1 g63];simp[c2]
      have hE:=J0 hv hw hB aGR (by omega:k<(aM d f.name).1.rows.length);apply et1
      ·(rw[hV,hE]<;>rfl)
     ·refine⟨aGS,?_⟩;exact⟨i+1,rfl,⟨aGR,FB hw (by rw[hb];(rw[bK h71,bK h80];simp[c2];done))⟩,aGR⟩
    ·refine⟨aGS,?_⟩;exact⟨i+1,rfl,⟨aGR,FB hw (by rw[hb];(simp[show ¬(gT e52 f.src).1=(gT e36 f.src).1 from fun q=>g63 (fW.2 q)];done))⟩,aGR⟩
   ·refine⟨aGS,?_⟩;exact⟨k+1,rfl,⟨aGR,J1 hv (by obtain rfl:i=k:=(by omega);exact hw)⟩,aGR⟩
  ·have hE:mJ d f= []:=by (rw[mJ,if_neg (by rw[c0];decide)];done)
   apply et1
   ·(rw[hE]<;>rfl)
 ·have hE:mJ d f= []:=by (rw[mJ];split<;>first|(rw[show (aM d f.name).1.rows.length=k by omega,hv];done)|rfl)
  apply et1
  ·(rw[hE]<;>rfl)
abbrev FJ (d:aU)(f:bB):Prop:=Cn 155 [.agg [.sl 155 3 (d.a.map aP)],aHE f] (vB (kR d f)) []
def Te (d:aU)(f:bB)(hc:cC d<=1048576):FJ d f:=by
 refine cq Tryz.func155 (.call (vB (jZ d f)) []<| .br (bN (BX d f)<| .len ((mJ d f).length)<| .fin []) (.fin [])) (p:=Lx (d.a.map aP)<| Lx (f.src.map intD)<| zD d f/\Bb (jZ d f) (HR d f/\Lm intD (mJ d f)/\(decide ((((mJ d f).length:Nat):Int)=0))=(kR d f)/\True) ((false)=(kR d f)/\True)) ?_;refine lx fun n0=>lx fun n1=>?_;refine⟨J2 _ _ aGR,db (fun g8=>?_) fun g8=>?_⟩
 ·refine⟨Ww _ _ aGR,aAb _,?_,trivial⟩
  ·(simp[kR, *];done)
 ·apply et1
  ·(simp[kR, *];done)
abbrev zO (d:aU)(f:bB):Prop:=Cn 103 [.agg [.sl 155 3 (d.a.map aP)],aHE f] (vB (kR d f)) []
def KZ (d:aU)(f:bB)(hc:cC d<=1048576):zO d f:=by
 refine cq Tryz.func103 (.call (vB (jZ d f)) []<| .br (bN (BZ d f)<| .len ((mJ d f).length)<| .fin []) (.fin [])) (p:=Lx (d.a.map aP)<| Lx (f.src.map intD)<| zE d f/\Bb (jZ d f) (HT d f/\Lm intD (mJ d f)/\(decide ((((mJ d f).length:Nat):Int)=0))=(kR d f)/\True) ((false)=(kR d f)/\True)) ?_;refine lx fun n0=>lx fun n1=>?_;refine⟨J3 _ _ aGR,db (fun g8=>?_) fun g8=>?_⟩
 ·refine⟨Wx _ _ aGR,aAb _,?_,trivial⟩
  ·(simp[kR, *];done)
 ·apply et1
  ·(simp[kR, *];done)
abbrev Ba (d:aU)(x:bG):AV × aGJ:=(.own 0,[(0,.arr 3 1 true ((AQ d x).map intD))])
abbrev HU (d:aU)(x:bG):Prop:=Cn 188 [.agg [.sl 155 3 (d.a.map aP)],aHF x] (Ba d x).1 (Ba d x).2
def Wy (d:aU)(x:bG)(hc:cC d<=1048576):HU d x:=by
 refine cq Tryz.func188 (.call (vB (iX d x)) []<| .br (.fin []) (.call (.tup [.agg [.p none (.str ((aM d x.name).1.name)),vI ((aM d x.name).1.l),.p none (.sl 51 1 ((aM d x.name).1.rows.map aD))],vB ((aM d x.name).2)]) []<| .call (.tup [.agg [.p none (.str ((aM d x.I).1.name)),vI ((aM d x.I).1.l),.p none (.sl 51 1 ((aM d x.I).1.rows.map aD))],vB ((aM d x.I).2)]) []<| .len ((aM d x.I).1.rows.length)<| .loop (Nat × Z) (Q2 Nat Z) ([9,11,34]++rg 38 13) [3400,4800,4900] (fun yy0=>[(38,vI (yy0.1:Int)),(9,.own 3400)]) (fun yy0=>[(3400,some (.arr 3 1 true (yy0.2.map intD)))]) (fun yy0=>yy0.1<=(aM d x.I).1.rows.length/\yy0.2=kA ((aM d x.I).1.rows.take yy0.1) x.B) (fun yy0=>(aM d x.I).1.rows.length - yy0.1) (fun yy0=> .br (.elem _ aD ((aM d x.I).1.rows) (fun e40=> .elem _ intD e40 (fun e46=> .app Int intD yy0.2 ([e46]:Z)<| .back [(3400,4900)]))) (.len ((aM d x.name).1.rows.length)<| .loop (Nat × Z) (Q2 Nat Z) ([12,14,15,51]++rg 55 18) [5100,7000,7100] (fun yy1=>[(55,vI (yy1.1:Int)),(12,.own 5100)]) (fun yy1=>[(5100,some (.arr 3 1 true (yy1.2.map intD)))]) (fun yy1=>yy1.1<=(aM d x.name).1.rows.length/\yy1.2=(kA ((aM d x.name).1.rows.take yy1.1) x.H).filter fun v=> !decide (v∈yy0.2)) (fun yy1=>(aM d x.name).1.rows.length - yy1.1) (fun yy1=> .br (.elem _ aD ((aM d x.name).1.rows) (fun e57=> .elem _ intD e57 (fun e62=> .call (vB (decide (e62∈yy0.2))) []<| .br (.app Int intD yy1.2 ([e62]:Z)<| .back [(5100,7100)]) (.back [(5100,5100)])))) (.callx [.own 0] [(0,.arr 3 1 true (yy1.2.map intD))] [(0,5100)] (.tup []) [(0,.arr 3 1 true ((lT yy1.2).map intD))]<| .callx [.own 0] [(0,.arr 3 1 true ((lT yy1.2).map intD))] [(0,5100)] (.own 1) [(1,.arr 3 1 true ((wH (lT yy1.2)).map intD))]<| .fin [(0,7601)])))))) (p:=Lx (d.a.map aP)<| zG d x/\Nr (iX d x) ([]=(AQ d x).map intD/\True) (xK Tryz.prog 117 [.agg [.sl 155 3 (d.a.map aP)],.one (.str x.name)] (.tup [.agg [.p none (.str ((aM d x.name).1.name)),vI ((aM d x.name).1.l),.p none (.sl 51 1 ((aM d x.name).1.rows.map aD))],vB ((aM d x.name).2)]) []/\(xK Tryz.prog 117 [.agg [.sl 155 3 (d.a.map aP)],.one (.str x.I)] (.tup [.agg [.p none (.str ((aM d x.I).1.name)),vI ((aM d x.I).1.l),.p none (.sl 51 1 ((aM d x.I).1.rows.map aD))],vB ((aM d x.I).2)]) []/\(Lm aD ((aM d x.I).1.rows)/\((∃(k:Nat) (there:Z),0=(k:Int)/\[]=there.map intD/\k<=(aM d x.I).1.rows.length/\there=kA ((aM d x.I).1.rows.take k) x.B)/\ ∀(k:Nat) (there:Z),(k<=(aM d x.I).1.rows.length/\there=kA ((aM d x.I).1.rows.take k) x.B)->Br ((k:Int)<(((aM d x.I).1.rows.length:Nat):Int)) (0<=(k:Int)/\Em aD ((aM d x.I).1.rows) k fun e40=>0<=x.B/\Em intD e40 ((x.B).toNat) fun e46=>Ap intD there ([e46]:Z) 8 (bO ((k:Int)+1)/\ ∃(k' :Nat) (there' :Z),((k:Int)+1)=(k' :Int)/\(there++[e46]).map intD=there'.map intD/\(k' <=(aM d x.I).1.rows.length/\there' =kA ((aM d x.I).1.rows.take k') x.B)/\(aM d x.I).1.rows.length - k' <(aM d x.I).1.rows.length - k)) (Lm aD ((aM d x.name).1.rows)/\((∃(j:Nat) (out:Z),0=(j:Int)/\[]=out.map intD/\j<=(aM d x.name).1.rows.length/\out=(kA ((aM d x.name).1.rows.take j) x.H).filter fun v=> !decide (v∈there))/\ ∀(j:Nat) (out:Z),(j<=(aM d x.name).1.rows.length/\out=(kA ((aM d x.name).1.rows.take j) x.H).filter fun v=> !decide (v∈there))->Br ((j:Int)<(((aM d x.name).1.rows.length:Nat):Int)) (0<=(j:Int)/\Em aD ((aM d x.name).1.rows) j fun e57=>0<=x.H/\Em intD e57 ((x.H).toNat) fun e62=>Q5 there e62/\Nr (decide (e62∈there)) (Ap intD out ([e62]:Z) 8 (bO ((j:Int)+1)/\ ∃(j' :Nat) (out' :Z),((j:Int)+1)=(j' :Int)/\(out++[e62]).map intD=out'.map intD/\(j' <=(aM d x.name).1.rows.length/\out' =(kA ((aM d x.name).1.rows.take j') x.H).filter fun v=> !decide (v∈there))/\(aM d x.name).1.rows.length - j' <(aM d x.name).1.rows.length - j)) (bO ((j:Int)+1)/\ ∃(j' :Nat) (out' :Z),((j:Int)+1)=(j' :Int)/\out.map intD=out'.map intD/\(j' <=(aM d x.name).1.rows.length/\out' =(kA ((aM d x.name).1.rows.take j') x.H).filter fun v=> !decide (v∈there))/\(aM d x.name).1.rows.length - j' <(aM d x.name).1.rows.length - j)) (xB Tryz.prog 202 [.own 0] [(0,.arr 3 1 true (out.map intD))] (.tup []) [(0,.arr 3 1 true ((lT out).map intD))]/\out.map intD=out.map intD/\xB Tryz.prog 203 [.own 0] [(0,.arr 3 1 true ((lT out).map intD))] (.own 1) [(1,.arr 3 1 true ((wH (lT out)).map intD))]/\(lT out).map intD=(lT out).map intD/\(wH (lT out)).map intD=(AQ d x).map intD/\True)))))))) ?_;refine lx fun n0=>?_;refine⟨J5 _ _ aGR,dm (fun c0=>?_) fun c0=>?_⟩
 ·have hbad:AQ d x= []:=by rw[AQ,if_neg (by simpa using c0)]
  apply et1
  ·(rw[hbad]<;>rfl)
 ·have hok:iX d x=true:=by simpa using c0
  obtain⟨hTa,hTb,hca,hcb⟩:=BO hok;have hA8:=cJ hTa;have hB8:=cJ hTb;refine⟨lV (uX _ x.name aGR) rfl,lV (uX _ x.I aGR) rfl,aAb _,⟨0,([]:Z),rfl,rfl,aBC _,rfl⟩,fun k there ⟨hk,hth⟩=>?_⟩;have htl:there.length=k:=by rw[hth,kA,aAb,aF5];omega
  apply dd<;>intro c1
  ·refine⟨aGR,rfl,aGR,fun e40 h40=>?_⟩;have hl40:=sJ hTb (aBD h40);refine⟨aGR,rfl,aGR,fun e46 h46=>?_⟩;refine ap ?_ (fun _=>rfl) (by (simp;omega));refine⟨aGS,?_⟩;exact⟨k+1,_,rfl,rfl,⟨aGR,by rw[pH _ _ h40,<-hth,bK h46]⟩,aGR⟩
  ·have hTH:there=kA (aM d x.I).1.rows x.B:=by rw[hth,aCR aGR]
   refine⟨aAb _,⟨0,([]:Z),rfl,rfl,aBC _,rfl⟩,fun j out ⟨hj,ho⟩=>?_⟩;have hol:out.length<=j:=by rw[ho];refine Nat.le_trans (List.length_filter_le _ _) ?_;simp[kA];omega
   apply dd<;>intro c2
   ·refine⟨aGR,rfl,aGR,fun e57 h57=>?_⟩;have hl57:=sJ hTa (aBD h57);refine⟨aGR,rfl,aGR,fun e62 h62=>?_⟩;refine⟨ctI _ _,dm (fun c3=>?_) fun c3=>?_⟩
    ·refine ap ?_ (fun _=>rfl) (by (simp[hth];omega));refine⟨aGS,?_⟩;exact⟨j+1,_,rfl,rfl,⟨aGR,by rw[pH _ _ h57,List.filter_append,<-ho,bK h62,List.filter_cons_of_pos (by simpa using c3)];rfl⟩,aGR⟩
    ·refine⟨aGS,?_⟩;exact⟨j+1,_,rfl,rfl,⟨aGR,by rw[pH _ _ h57,List.filter_append,<-ho,bK h62,List.filter_cons_of_neg (by simpa using c3)];simp⟩,aGR⟩
   ·have hE:AQ d x=wH (lT out):=by rw[AQ,if_pos hok,HA,ho,hTH,aCR aGR]
    refine⟨ND out aGR,rfl,WV (lT out) (by (rw[xX];omega)),rfl,?_,trivial⟩
    ·(rw[hE]<;>rfl)
abbrev FK (d:aU)(x:bG):Prop:=Cn 156 [.agg [.sl 155 3 (d.a.map aP)],aHF x] (vB (kS d x)) []
def Tf (d:aU)(x:bG)(hc:cC d<=1048576):FK d x:=by
 refine cq Tryz.func156 (.call (vB (iX d x)) []<| .br (bN (Ba d x)<| .len ((AQ d x).length)<| .fin []) (.fin [])) (p:=Lx (d.a.map aP)<| zG d x/\Bb (iX d x) (HU d x/\Lm intD (AQ d x)/\(decide ((((AQ d x).length:Nat):Int)=0))=(kS d x)/\True) ((false)=(kS d x)/\True)) ?_;refine lx fun n0=>?_;refine⟨J5 _ _ aGR,db (fun g8=>?_) fun g8=>?_⟩
 ·refine⟨Wy _ _ aGR,aAb _,?_,trivial⟩
  ·(rw[kS,g8,Q6,WZ g8];rfl)
 ·apply et1
  ·(simp[kS, *];done)
abbrev Bc (d:aU)(x:bG):AV × aGJ:=(.own 0,[(0,.arr 3 1 true ((AR d x).map intD))])
abbrev HW (d:aU)(x:bG):Prop:=Cn 142 [.agg [.sl 155 3 (d.a.map aP)],aHF x] (Bc d x).1 (Bc d x).2
def Wz (d:aU)(x:bG)(hc:cC d<=1048576):HW d x:=by
 refine cq Tryz.func142 (.call (vB (iX d x)) []<| .br (.fin [(0,1500)]) (.call (.tup [.agg [.p none (.str ((aM d x.name).1.name)),vI ((aM d x.name).1.l),.p none (.sl 51 1 ((aM d x.name).1.rows.map aD))],vB ((aM d x.name).2)]) []<| .call (.tup [.agg [.p none (.str ((aM d x.I).1.name)),vI ((aM d x.I).1.l),.p none (.sl 51 1 ((aM d x.I).1.rows.map aD))],vB ((aM d x.I).2)]) []<| .loop (Nat × Z) (Q2 Nat Z) ([5,10,11,12,13,14,15]++rg 35 55) [1500,8800,8900] (fun yy0=>[(10,vI (yy0.1:Int)),(5,.own 1500)]) (fun yy0=>[(1500,some (.arr 3 1 true (yy0.2.map intD)))]) (fun yy0=>yy0.1<=10/\yy0.2=rA d x yy0.1) (fun yy0=>10 - yy0.1) (fun yy0=> .br (.loop (Nat × Bool) (Q2 Nat Bool) ([11,13]++rg 39 21) [] (fun yy1=>[(13,vI (yy1.1:Int)),(11,vB yy1.2)]) (fun yy1=>[]) (fun yy1=>yy1.1<=(aM d x.name).1.rows.length/\yy1.2=decide ((yy0.1:Int)∈kA ((aM d x.name).1.rows.take yy1.1) x.H)) (fun yy1=>(aM d x.name).1.rows.length - yy1.1) (fun yy1=> .len ((aM d x.name).1.rows.length)<| .br (.br (.back []) (.elem _ aD ((aM d x.name).1.rows) (fun e51=> .elem _ intD e51 (fun e55=> .back [])))) (.loop (Nat × Bool) (Q2 Nat Bool) ([12,14]++rg 60 21) [] (fun yy2=>[(14,vI (yy2.1:Int)),(12,vB yy2.2)]) (fun yy2=>[]) (fun yy2=>yy2.1<=(aM d x.I).1.rows.length/\yy2.2=decide ((yy0.1:Int)∈kA ((aM d x.I).1.rows.take yy2.1) x.B)) (fun yy2=>(aM d x.I).1.rows.length - yy2.1) (fun yy2=> .len ((aM d x.I).1.rows.length)<| .br (.br (.back []) (.elem _ aD ((aM d x.I).1.rows) (fun e72=> .elem _ intD e72 (fun e76=> .back [])))) (.br (aGQ<| .br (.app Int intD yy0.2 ([(yy0.1:Int)]:Z)<| .back [(1500,8900)]) (.back [(1500,1500)])) (.back [(1500,1500)])))))) (.fin [(0,1500)])))) (p:=Lx (d.a.map aP)<| zH d x/\Nr (iX d x) ([]=(AR d x).map intD/\True) (xK Tryz.prog 167 [.agg [.sl 155 3 (d.a.map aP)],.one (.str x.name)] (.tup [.agg [.p none (.str ((aM d x.name).1.name)),vI ((aM d x.name).1.l),.p none (.sl 51 1 ((aM d x.name).1.rows.map aD))],vB ((aM d x.name).2)]) []/\(xK Tryz.prog 167 [.agg [.sl 155 3 (d.a.map aP)],.one (.str x.I)] (.tup [.agg [.p none (.str ((aM d x.I).1.name)),vI ((aM d x.I).1.l),.p none (.sl 51 1 ((aM d x.I).1.rows.map aD))],vB ((aM d x.I).2)]) []/\((∃(v:Nat) (out:Z),0=(v:Int)/\[]=out.map intD/\v<=10/\out=rA d x v)/\ ∀(v:Nat) (out:Z),(v<=10/\out=rA d x v)->Br ((v:Int)<=9) ((∃(k:Nat) (p:Bool),0=(k:Int)/\(false)=p/\k<=(aM d x.name).1.rows.length/\p=decide ((v:Int)∈kA ((aM d x.name).1.rows.take k) x.H))/\ ∀(k:Nat) (p:Bool),(k<=(aM d x.name).1.rows.length/\p=decide ((v:Int)∈kA ((aM d x.name).1.rows.take k) x.H))->Lm aD ((aM d x.name).1.rows)/\Br ((k:Int)<(((aM d x.name).1.rows.length:Nat):Int)) (Bb (p) (bO ((k:Int)+1)/\ ∃(k' :Nat) (p' :Bool),((k:Int)+1)=(k' :Int)/\(true)=p' /\(k' <=(aM d x.name).1.rows.length/\p' =decide ((v:Int)∈kA ((aM d x.name).1.rows.take k') x.H))/\(aM d x.name).1.rows.length - k' <(aM d x.name).1.rows.length - k) (0<=(k:Int)/\Em aD ((aM d x.name).1.rows) k fun e51=>0<=x.H/\Em intD e51 ((x.H).toNat) fun e55=>bO ((k:Int)+1)/\ ∃(k' :Nat) (p' :Bool),((k:Int)+1)=(k' :Int)/\(decide (e55=(v:Int)))=p' /\(k' <=(aM d x.name).1.rows.length/\p' =decide ((v:Int)∈kA ((aM d x.name).1.rows.take k') x.H))/\(aM d x.name).1.rows.length - k' <(aM d x.name).1.rows.length - k)) ((∃(j:Nat) (q:Bool),0=(j:Int)/\(false)=q/\j<=(aM d x.I).1.rows.length/\q=decide ((v:Int)∈kA ((aM d x.I).1.rows.take j) x.B))/\ ∀(j:Nat) (q:Bool),(j<=(aM d x.I).1.rows.length/\q=decide ((v:Int)∈kA ((aM d x.I).1.rows.take j) x.B))->Lm aD ((aM d x.I).1.rows)/\Br ((j:Int)<(((aM d x.I).1.rows.length:Nat):Int)) (Bb (q) (bO ((j:Int)+1)/\ ∃(j' :Nat) (q' :Bool),((j:Int)+1)=(j' :Int)/\(true)=q' /\(j' <=(aM d x.I).1.rows.length/\q' =decide ((v:Int)∈kA ((aM d x.I).1.rows.take j') x.B))/\(aM d x.I).1.rows.length - j' <(aM d x.I).1.rows.length - j) (0<=(j:Int)/\Em aD ((aM d x.I).1.rows) j fun e72=>0<=x.B/\Em intD e72 ((x.B).toNat) fun e76=>bO ((j:Int)+1)/\ ∃(j' :Nat) (q' :Bool),((j:Int)+1)=(j' :Int)/\(decide (e76=(v:Int)))=q' /\(j' <=(aM d x.I).1.rows.length/\q' =decide ((v:Int)∈kA ((aM d x.I).1.rows.take j') x.B))/\(aM d x.I).1.rows.length - j' <(aM d x.I).1.rows.length - j)) (Bb (p) (Nr (q) (Ap intD out ([(v:Int)]:Z) 8 (bO ((v:Int)+1)/\ ∃(v' :Nat) (out' :Z),((v:Int)+1)=(v' :Int)/\(out++[(v:Int)]).map intD=out'.map intD/\(v' <=10/\out' =rA d x v')/\10 - v' <10 - v)) (bO ((v:Int)+1)/\ ∃(v' :Nat) (out' :Z),((v:Int)+1)=(v' :Int)/\out.map intD=out'.map intD/\(v' <=10/\out' =rA d x v')/\10 - v' <10 - v)) (bO ((v:Int)+1)/\ ∃(v' :Nat) (out' :Z),((v:Int)+1)=(v' :Int)/\out.map intD=out'.map intD/\(v' <=10/\out' =rA d x v')/\10 - v' <10 - v)))) (out.map intD=(AR d x).map intD/\True))))) ?_;refine lx fun n0=>?_;refine⟨J6 _ _ aGR,dm (fun c0=>?_) fun c0=>?_⟩
 ·have hbad:AR d x= []:=by rw[AR,if_neg (by simpa using c0)]
  apply et1
  ·(rw[hbad]<;>rfl)
 ·have hok:iX d x=true:=by simpa using c0
  obtain⟨hTa,hTb,hca,hcb⟩:=BO hok;have hA8:=cJ hTa;have hB8:=cJ hTb;refine⟨lV (uY _ x.name aGR) rfl,lV (uY _ x.I aGR) rfl,⟨0,([]:Z),rfl,rfl,aGR,rfl⟩,fun v out ⟨hvv,ho⟩=>?_⟩;have hol:=WX d x v;rw[<-ho] at hol;apply dd<;>intro c1
  ·refine⟨⟨0,false,rfl,rfl,aBC _,rfl⟩,fun k p ⟨hk,hp⟩=>?_⟩;refine⟨aAb _,dd (fun c2=>?_) fun c2=>?_⟩
   ·obtain⟨ra,hra⟩:=fK (l:=(aM d x.name).1.rows) (k:=k) aGR;apply db<;>intro g47
    ·refine⟨aGS,?_⟩;exact⟨k+1,_,rfl,rfl,⟨aGR,by rw[pH _ _ hra,xY,<-hp,g47];rfl⟩,aGR⟩
    ·refine⟨aGR,rfl,aGR,fun e51 h51=>?_⟩;have hl51:=sJ hTa (aBD h51);refine⟨aGR,rfl,aGR,fun e55 h55=>?_⟩;refine⟨aGS,?_⟩;exact⟨k+1,_,rfl,rfl,⟨aGR,by obtain rfl:=bE h51 hra;rw[pH _ _ hra,xY,<-hp,g47,bK h55,Bool.false_or];exact decide_eq_decide.2 ⟨Eq.symm,Eq.symm⟩⟩,aGR⟩
   ·have hP:p=decide ((v:Int)∈kA (aM d x.name).1.rows x.H):=by rw[hp,aCR aGR]
    refine⟨⟨0,false,rfl,rfl,aBC _,rfl⟩,fun j q ⟨hj,hq⟩=>?_⟩;refine⟨aAb _,dd (fun c3=>?_) fun c3=>?_⟩
    ·obtain⟨rb,hrb⟩:=fK (l:=(aM d x.I).1.rows) (k:=j) aGR;apply db<;>intro g68
     ·refine⟨aGS,?_⟩;exact⟨j+1,_,rfl,rfl,⟨aGR,by rw[pH _ _ hrb,xY,<-hq,g68];rfl⟩,aGR⟩
     ·refine⟨aGR,rfl,aGR,fun e72 h72=>?_⟩;have hl72:=sJ hTb (aBD h72);refine⟨aGR,rfl,aGR,fun e76 h76=>?_⟩;refine⟨aGS,?_⟩;exact⟨j+1,_,rfl,rfl,⟨aGR,by obtain rfl:=bE h72 hrb;rw[pH _ _ hrb,xY,<-hq,g68,bK h76,Bool.false_or];exact decide_eq_decide.2 ⟨Eq.symm,Eq.symm⟩⟩,aGR⟩
    ·have hQ:q=decide ((v:Int)∈kA (aM d x.I).1.rows x.B):=by rw[hq,aCR aGR]
     apply db<;>intro g82
     ·apply dm<;>intro c4
      ·refine ap ?_ (fun _=>rfl) (by (simp;omega));refine⟨aGS,?_⟩;exact⟨v+1,_,rfl,rfl,⟨aGR,by rw[ho,WW (by rw[FC,<-hP,<-hQ,g82,c4];rfl)]⟩,aGR⟩
      ·refine⟨aGS,?_⟩;exact⟨v+1,_,rfl,rfl,⟨aGR,by rw[ho,Q8 (by rw[FC,<-hP,<-hQ,g82,c4];rfl)]⟩,aGR⟩
     ·refine⟨aGS,?_⟩;exact⟨v+1,_,rfl,rfl,⟨aGR,by rw[ho,Q8 (by rw[FC,<-hP,<-hQ,g82];rfl)]⟩,aGR⟩
  ·have hE:AR d x=out:=by rw[AR,if_pos hok,ho,show v=10 by omega]
   apply et1
   ·(rw[hE]<;>rfl)
abbrev zP (d:aU)(x:bG):Prop:=Cn 105 [.agg [.sl 155 3 (d.a.map aP)],aHF x] (vB (kS d x)) []
def Ka (d:aU)(x:bG)(hc:cC d<=1048576):zP d x:=by
 refine cq Tryz.func105 (.call (vB (iX d x)) []<| .br (bN (Bc d x)<| .len ((AR d x).length)<| .fin []) (.fin [])) (p:=Lx (d.a.map aP)<| zH d x/\Bb (iX d x) (HW d x/\Lm intD (AR d x)/\(decide ((((AR d x).length:Nat):Int)=0))=(kS d x)/\True) ((false)=(kS d x)/\True)) ?_;refine lx fun n0=>?_;refine⟨J6 _ _ aGR,db (fun g8=>?_) fun g8=>?_⟩
 ·refine⟨Wz _ _ aGR,aAb _,?_,trivial⟩
  ·(rw[kS,g8,Q6,Wa g8];rfl)
 ·apply et1
  ·(simp[kS, *];done)
def iY (d:aU)(l:List bB)(m:List bG):Bool:=l.all (kR d)&&(m.all (kS d)&&(decide ((l.length:Int)<=8)&&decide ((m.length:Int)<=8)))
abbrev HZ (d:aU)(l:List bB)(m:List bG):Prop:=Cn 115 [.agg [.sl 155 3 (d.a.map aP)],.one (.sl 134 3 (l.map aO)),.one (.sl 138 4 (m.map aT))] (vB (iY d l m)) []
def W0 (d:aU)(l:List bB)(m:List bG)(hc:cC d<=1048576):HZ d l m:=by
 refine cq Tryz.func115 (.len l.length<| .loop Nat (Q1 Nat) ([8]++rg 13 9) [800] (fun k=>[(13,vI (k:Int))]) (fun k=>[]) (fun k=>k<=l.length/\(l.take k).all (kR d)=true) (fun k=>l.length - k) (fun k=> .br (.elem _ aO l (fun e15=> .call (vB (kR d e15)) []<| .br (.fin []) (.back []))) (.len m.length<| .loop Nat (Q1 Nat) ([10]++rg 24 9) [1000] (fun j=>[(24,vI (j:Int))]) (fun j=>[]) (fun j=>j<=m.length/\(m.take j).all (kS d)=true) (fun j=>m.length - j) (fun j=> .br (.elem _ aT m (fun e26=> .call (vB (kS d e26)) []<| .br (.fin []) (.back []))) (.len l.length<| .br (.len m.length<| .fin []) (.fin [])))))) (p:=Lx (d.a.map aP)<| Lx (l.map aO)<| Lx (m.map aT)<| Lm aO l/\((∃(k:Nat),0=(k:Int)/\k<=l.length/\(l.take k).all (kR d)=true)/\ ∀(k:Nat),(k<=l.length/\(l.take k).all (kR d)=true)->Br ((k:Int)<(l.length:Int)) (0<=(k:Int)/\Em aO l k fun e15=>FJ d e15/\Nr (kR d e15) ((false)=(iY d l m)/\True) (bO ((k:Int)+1)/\ ∃(k' :Nat),((k:Int)+1)=(k' :Int)/\(k' <=l.length/\(l.take k').all (kR d)=true)/\l.length - k' <l.length - k)) (Lm aT m/\((∃(j:Nat),0=(j:Int)/\j<=m.length/\(m.take j).all (kS d)=true)/\ ∀(j:Nat),(j<=m.length/\(m.take j).all (kS d)=true)->Br ((j:Int)<(m.length:Int)) (0<=(j:Int)/\Em aT m j fun e26=>FK d e26/\Nr (kS d e26) ((false)=(iY d l m)/\True) (bO ((j:Int)+1)/\ ∃(j' :Nat),((j:Int)+1)=(j' :Int)/\(j' <=m.length/\(m.take j').all (kS d)=true)/\m.length - j' <m.length - j)) (Lm aO l/\Br ((l.length:Int)<=8) (Lm aT m/\(decide ((m.length:Int)<=8))=(iY d l m)/\True) ((false)=(iY d l m)/\True)))))) ?_;refine lx fun n0=>lx fun n1=>lx fun n2=>?_;refine⟨aAb _,⟨0,rfl,aBC _,rfl⟩,fun k ⟨hk,ha⟩=>?_⟩;apply dd<;>intro c0
 ·refine⟨aGR,rfl,aGR,fun e15 h15=>?_⟩;refine⟨Te _ _ aGR,dm (fun c1=>?_) fun c1=>?_⟩
  ·have hL:l.all (kR d)=false:=eT h15 (by simpa using c1);apply et1
   ·(simp[iY,hL];done)
  ·refine⟨aGS,?_⟩;exact⟨k+1,rfl,⟨aGR,cL h15 ha (by simpa using c1)⟩,aGR⟩
 ·have hL:=dD aGR ha;refine⟨aAb _,⟨0,rfl,aBC _,rfl⟩,fun j ⟨hj,hb⟩=>?_⟩;apply dd<;>intro c2
  ·refine⟨aGR,rfl,aGR,fun e26 h26=>?_⟩;refine⟨Tf _ _ aGR,dm (fun c3=>?_) fun c3=>?_⟩
   ·have hM:m.all (kS d)=false:=eT h26 (by simpa using c3);apply et1
    ·(simp[iY,hL,hM];done)
   ·refine⟨aGS,?_⟩;exact⟨j+1,rfl,⟨aGR,cL h26 hb (by simpa using c3)⟩,aGR⟩
  ·have hM:=dD aGR hb;refine⟨aAb _,dd (fun g36=>?_) fun g36=>?_⟩
   ·refine⟨aAb _,?_,trivial⟩
    ·(simp[iY,hL,hM, *];done)
   ·apply et1
    ·(simp[iY,hL,hM, *];done)
abbrev Bd (d:aU)(l:List bB)(m:List bG):Prop:=Cn 144 [.agg [.sl 155 3 (d.a.map aP)],.one (.sl 134 3 (l.map aO)),.one (.sl 138 4 (m.map aT))] (vB (iY d l m)) []
def NO (d:aU)(l:List bB)(m:List bG)(hc:cC d<=1048576):Bd d l m:=by
 refine cq Tryz.func144 (.len l.length<| .br (.fin []) (.len m.length<| aGQ<| .br (.fin []) (.loop Nat (Q1 Nat) ([7]++rg 17 13) [] (fun k=>[(7,vI (k:Int))]) (fun k=>[]) (fun k=>k<=l.length/\(l.take k).all (kR d)=true) (fun k=>l.length - k) (fun k=> .len l.length<| .br (.elem _ aO l (fun e26=> .call (vB (kR d e26)) []<| .br (.fin []) (.back []))) (.loop Nat (Q1 Nat) ([8]++rg 30 13) [] (fun j=>[(8,vI (j:Int))]) (fun j=>[]) (fun j=>j<=m.length/\(m.take j).all (kS d)=true) (fun j=>m.length - j) (fun j=> .len m.length<| .br (.elem _ aT m (fun e39=> .call (vB (kS d e39)) []<| .br (.fin []) (.back []))) (.fin []))))))) (p:=Lx (d.a.map aP)<| Lx (l.map aO)<| Lx (m.map aT)<| Lm aO l/\Br (8<(l.length:Int)) ((false)=(iY d l m)/\True) (Lm aT m/\Br (8<(m.length:Int)) ((false)=(iY d l m)/\True) ((∃(k:Nat),0=(k:Int)/\k<=l.length/\(l.take k).all (kR d)=true)/\ ∀(k:Nat),(k<=l.length/\(l.take k).all (kR d)=true)->Lm aO l/\Br ((k:Int)<(l.length:Int)) (0<=(k:Int)/\Em aO l k fun e26=>zO d e26/\Nr (kR d e26) ((false)=(iY d l m)/\True) (bO ((k:Int)+1)/\ ∃(k' :Nat),((k:Int)+1)=(k' :Int)/\(k' <=l.length/\(l.take k').all (kR d)=true)/\l.length - k' <l.length - k)) ((∃(j:Nat),0=(j:Int)/\j<=m.length/\(m.take j).all (kS d)=true)/\ ∀(j:Nat),(j<=m.length/\(m.take j).all (kS d)=true)->Lm aT m/\Br ((j:Int)<(m.length:Int)) (0<=(j:Int)/\Em aT m j fun e39=>zP d e39/\Nr (kS d e39) ((false)=(iY d l m)/\True) (bO ((j:Int)+1)/\ ∃(j' :Nat),((j:Int)+1)=(j' :Int)/\(j' <=m.length/\(m.take j').all (kS d)=true)/\m.length - j' <m.length - j)) ((true)=(iY d l m)/\True))))) ?_;refine lx fun n0=>lx fun n1=>lx fun n2=>?_;refine⟨aAb _,dd (fun g12=>?_) fun g12=>?_⟩
 ·have hbad:(decide ((l.length:Int)<=8)&&decide ((m.length:Int)<=8))=false:=by (simp;omega)
  apply et1
  ·(rw[iY,hbad];simp;done)
 ·refine⟨aAb _,dd (fun c0=>?_) fun c0=>?_⟩
  ·have hbad:(decide ((l.length:Int)<=8)&&decide ((m.length:Int)<=8))=false:=by (simp;omega)
   apply et1
   ·(rw[iY,hbad];simp;done)
  ·have hz:(decide ((l.length:Int)<=8)&&decide ((m.length:Int)<=8))=true:=by simp;omega
   refine⟨⟨0,rfl,aBC _,rfl⟩,fun k ⟨hk,ha⟩=>?_⟩;refine⟨aAb _,dd (fun c1=>?_) fun c1=>?_⟩
   ·refine⟨aGR,rfl,aGR,fun e26 h26=>?_⟩;refine⟨KZ _ _ aGR,dm (fun c2=>?_) fun c2=>?_⟩
    ·have hL:l.all (kR d)=false:=eT h26 (by simpa using c2);apply et1
     ·(rw[iY,hL];rfl)
    ·refine⟨aGS,?_⟩;exact⟨k+1,rfl,⟨aGR,cL h26 ha (by simpa using c2)⟩,aGR⟩
   ·have hL:=dD aGR ha;refine⟨⟨0,rfl,aBC _,rfl⟩,fun j ⟨hj,hb⟩=>?_⟩;refine⟨aAb _,dd (fun c3=>?_) fun c3=>?_⟩
    ·refine⟨aGR,rfl,aGR,fun e39 h39=>?_⟩;refine⟨Ka _ _ aGR,dm (fun c4=>?_) fun c4=>?_⟩
     ·have hM:m.all (kS d)=false:=eT h39 (by simpa using c4);apply et1
      ·(rw[iY,hL,hM,hz];rfl)
     ·refine⟨aGS,?_⟩;exact⟨j+1,rfl,⟨aGR,cL h39 hb (by simpa using c4)⟩,aGR⟩
    ·have hM:=dD aGR hb;apply et1
     ·(rw[iY,hL,hM,hz];rfl)
def jH (s:cA):Bool:=(eW s.z s.j.D).2&&(decide ((eW s.z s.j.D).1=s.j)&&iY s.z s.y s.x)
abbrev aGY(x:cA):Ar:=.agg [.sl 155 3 (x.z.a.map aP),.int .i64 x.j.D,.sl 112 4 (x.j.a.map aJ),.sl 134 3 (x.y.map aO),.sl 138 4 (x.x.map aT)]
abbrev Ha (s:cA):Prop:=Cn 72 [aGY s] (vB (jH s)) []
abbrev aHJ(x:cA)(p:Prop):Prop:=Lx (x.z.a.map aP)<| Lx (x.j.a.map aJ)<| Lx (x.y.map aO)<| Lx (x.x.map aT)<| p
theorem aHB(x:cA):fD x=cC x.z+dA x.j+cE x.y+cQ x.x:=rfl
def W3 (s:cA)(hc:fD s<=1048576):Ha s:=by
 refine cq Tryz.func72 (bN (Dj s.z s.j.D)<| .br (.call (vB (decide (((eW s.z s.j.D).1)=s.j))) []<| .lit<| .br (.call (vB (iY s.z s.y s.x)) []<| .fin []) (.fin [])) (.fin [])) (p:=aHJ s<| Js s.z s.j.D/\Bb ((eW s.z s.j.D).2) (Et ((eW s.z s.j.D).1) s.j/\Br (((eW s.z s.j.D).1)=s.j) (HZ s.z s.y s.x/\(iY s.z s.y s.x)=(jH s)/\True) ((false)=(jH s)/\True)) ((false)=(jH s)/\True)) ?_;refine lx fun n0=>lx fun n1=>lx fun n2=>lx fun n3=>?_;have hS:=aHB s;have hsm:=Ca s.z s.j.D;refine⟨ZB s.z s.j.D,db (fun g15=>?_) fun g15=>?_⟩
 ·refine⟨TC _ _,dd (fun g21=>?_) fun g21=>?_⟩
  ·refine⟨W0 s.z _ _ aGR,?_,trivial⟩
   ·(simp[jH, *];done)
  ·apply et1
   ·(simp[jH, *];done)
 ·apply et1
  ·(simp[jH, *];done)
abbrev Hb (s:cA):Prop:=Cn 128 [aGY s] (vB (jH s)) []
def W4 (s:cA)(hc:fD s<=1048576):Hb s:=by
 refine cq Tryz.func128 (bN (zB s.z s.j.D)<| .br (.call (vB (decide (((eW s.z s.j.D).1)=s.j))) []<| .lit<| .br (.call (vB (iY s.z s.y s.x)) []<| .fin []) (.fin [])) (.fin [])) (p:=aHJ s<| Dk s.z s.j.D/\Bb ((eW s.z s.j.D).2) (Ev ((eW s.z s.j.D).1) s.j/\Br (((eW s.z s.j.D).1)=s.j) (Bd s.z s.y s.x/\(iY s.z s.y s.x)=(jH s)/\True) ((false)=(jH s)/\True)) ((false)=(jH s)/\True)) ?_;refine lx fun n0=>lx fun n1=>lx fun n2=>lx fun n3=>?_;have hS:=aHB s;have hsm:=Ca s.z s.j.D;refine⟨Qx s.z s.j.D,db (fun g15=>?_) fun g15=>?_⟩
 ·refine⟨TD _ _ aGR,dd (fun g21=>?_) fun g21=>?_⟩
  ·refine⟨NO s.z _ _ aGR,?_,trivial⟩
   ·(simp[jH, *];done)
  ·apply et1
   ·(simp[jH, *];done)
 ·apply et1
  ·(simp[jH, *];done)
abbrev Dz (d:aU):AV × aGJ:=(.agg [.own 0],[(0,.arr 155 3 true (d.a.map aP))])
abbrev Kb (d:aU):Prop:=Cn 145 [.agg [.sl 155 3 (d.a.map aP)]] (Dz d).1 (Dz d).2
def Zr (d:aU)(hc:cC d<=1048576):Kb d:=by
 refine cq Tryz.func145 (.loop (Nat × (List aX)) (Q2 Nat (List aX)) ([4,5]++rg 7 19) [300,500,1900,2300,2400,9000] (fun yy0=>[(4,vI (yy0.1:Int))]) (fun yy0=>[(300,some (.box 26 [.own 9000])),(9000,some (.arr 155 3 true (yy0.2.map aP)))]) (fun yy0=>yy0.1<=d.a.length/\yy0.2=d.a.take yy0.1) (fun yy0=>d.a.length - yy0.1) (fun yy0=> .len d.a.length<| .br (.elem _ aP d.a (fun e17=>bN (zC e17)<| .appx aX aP yy0.2 e17<| .back [(300,300),(9000,2400)])) (.fin [(0,9000)]))) (p:=Lx (d.a.map aP)<| (∃(k:Nat) (out:List aX),0=(k:Int)/\[]=out.map aP/\k<=d.a.length/\out=d.a.take k)/\ ∀(k:Nat) (out:List aX),(k<=d.a.length/\out=d.a.take k)->Lm aP d.a/\Br ((k:Int)<(d.a.length:Int)) (0<=(k:Int)/\Em aP d.a k fun e17=>Dm e17/\out.map aP=out.map aP/\e17.name=e17.name/\e17.l=e17.l/\e17.rows.map aD=e17.rows.map aD/\(out.length+1)*48<=140737488355328/\bO ((k:Int)+1)/\ ∃(k' :Nat) (out' :List aX),((k:Int)+1)=(k' :Int)/\(out++[e17]).map aP=out'.map aP/\(k' <=d.a.length/\out' =d.a.take k')/\d.a.length - k' <d.a.length - k) (out.map aP=d.a.map aP/\True)) ?_;refine lx fun n0=>?_;have q1:cC d=CR d.a:=rfl;have q2:=QV d.a;refine⟨⟨0,([]:List aX),rfl,rfl,aBC _,rfl⟩,fun k out ⟨hk,ho⟩=>?_⟩;refine⟨aAb _,dd (fun c0=>?_) fun c0=>?_⟩
 ·refine⟨aGR,rfl,aGR,fun e17 h17=>?_⟩;have q3:=DX h17;refine⟨Qy _ aGR,rfl,rfl,rfl,rfl,by first|omega|(simp;omega)|(simp[ho];omega),aGS,?_⟩;exact⟨k+1,_,rfl,rfl,⟨aGR,by rw[ho,bW h17]⟩,aGR⟩
 ·apply et1
  ·first|rfl|(rw[ho,aCR aGR])
abbrev D0 (l:List bB):AV × aGJ:=(.own 0,[(0,.arr 134 3 true (l.map aO))])
abbrev Kc (l:List bB):Prop:=Cn 146 [.one (.sl 134 3 (l.map aO))] (D0 l).1 (D0 l).2
def Zs (l:List bB)(hc:cE l<=1048576):Kc l:=by
 refine cq Tryz.func146 (.loop (Nat × (List bB)) (Q2 Nat (List bB)) (rg 3 30) [500,1800,2400,3100,3200] (fun yy0=>[(4,vI (yy0.1:Int)),(3,.own 500)]) (fun yy0=>[(500,some (.arr 134 3 true (yy0.2.map aO)))]) (fun yy0=>yy0.1<=l.length/\yy0.2=l.take yy0.1) (fun yy0=>l.length - yy0.1) (fun yy0=> .len l.length<| .br (.elem _ aO l (fun e15=> .elem _ aO l (fun e21=> .app Int intD ([]:Z) e21.src<| .elem _ aO l (fun e27=> .appx bB aO yy0.2 (⟨e15.name,([]:Z)++e21.src,e27.dst⟩:bB)<| .back [(500,3200)])))) (.fin [(0,500)]))) (p:=Lx (l.map aO)<| (∃(k:Nat) (out:List bB),0=(k:Int)/\[]=out.map aO/\k<=l.length/\out=l.take k)/\ ∀(k:Nat) (out:List bB),(k<=l.length/\out=l.take k)->Lm aO l/\Br ((k:Int)<(l.length:Int)) (0<=(k:Int)/\Em aO l k fun e15=>0<=(k:Int)/\Em aO l k fun e21=>Ap intD ([]:Z) e21.src 8 (0<=(k:Int)/\Em aO l k fun e27=>out.map aO=out.map aO/\e15.name=((⟨e15.name,([]:Z)++e21.src,e27.dst⟩:bB).name)/\(([]:Z)++e21.src).map intD=(⟨e15.name,([]:Z)++e21.src,e27.dst⟩:bB).src.map intD/\e27.dst=((⟨e15.name,([]:Z)++e21.src,e27.dst⟩:bB).dst)/\(out.length+1)*48<=140737488355328/\bO ((k:Int)+1)/\ ∃(k' :Nat) (out' :List bB),((k:Int)+1)=(k' :Int)/\(out++[(⟨e15.name,([]:Z)++e21.src,e27.dst⟩:bB)]).map aO=out'.map aO/\(k' <=l.length/\out' =l.take k')/\l.length - k' <l.length - k)) (out.map aO=l.map aO/\True)) ?_;refine lx fun n0=>?_;have q2:=xQ l;refine⟨⟨0,([]:List bB),rfl,rfl,aBC _,rfl⟩,fun k out ⟨hk,ho⟩=>?_⟩;refine⟨aAb _,dd (fun c0=>?_) fun c0=>?_⟩
 ·refine⟨aGR,rfl,aGR,fun e15 h15=>?_⟩
  try (obtain rfl:=(bE h15 h15).symm)
  have q3:=Hz h15;have q4:jY e15=e15.name.size+eL e15.src:=rfl;have q5:eL e15.src=e15.src.length:=rfl;refine⟨aGR,rfl,aGR,fun e21 h21=>?_⟩
  try (obtain rfl:=(bE h15 h21).symm)
  refine ap ?_ (fun _=>rfl) (by first|omega|(simp;omega)|(simp[ho];omega));refine⟨aGR,rfl,aGR,fun e27 h27=>?_⟩
  try (obtain rfl:=(bE h15 h27).symm)
  refine⟨rfl,rfl,rfl,rfl,by first|omega|(simp;omega)|(simp[ho];omega),aGS,?_⟩;exact⟨k+1,_,rfl,rfl,⟨aGR,by rw[ho,bW h15]<;>rfl⟩,aGR⟩
 ·apply et1
  ·first|rfl|(rw[ho,aCR aGR])
def iM (d:aU)(l:List bB)(m:List bG):cA × Bool:=if ((eW d 1).2&&iY d l m)=true then (⟨d,(eW d 1).1,l,m⟩,true) else (Yk,false)
def yD {d:aU}{l:List bB}{m:List bG}(h:((eW d 1).2&&iY d l m)=true):iM d l m=(⟨d,(eW d 1).1,l,m⟩,true):=by rw[iM,if_pos h]
def Be {d:aU}{l:List bB}{m:List bG}(h:((eW d 1).2&&iY d l m)=false):iM d l m=(Yk,false):=by rw[iM,if_neg (by rw[h];decide)]
def Ra (d:aU)(l:List bB)(m:List bG):fD (iM d l m).1<=cC d+20000+cE l+cQ m:=by
 cases h:(eW d 1).2&&iY d l m with
 | false=>rw[Be h];exact aBC _
 | true=>
   rw[yD h];have:=Ca d 1;show cC d+dA (eW d 1).1+cE l+cQ m<=_;omega
abbrev zQ (d:aU)(l:List bB)(m:List bG):AV × aGJ:=(.tup [.agg [.own 0,vI ((iM d l m).1.j.D),.own 1,.own 2,.own 3],vB ((iM d l m).2)],[(0,.arr 155 3 true ((iM d l m).1.z.a.map aP)),(1,.arr 112 4 true ((iM d l m).1.j.a.map aJ)),(2,.arr 134 3 true ((iM d l m).1.y.map aO)),(3,.arr 138 4 true ((iM d l m).1.x.map aT))])
abbrev FL (d:aU)(l:List bB)(m:List bG):Prop:=Cn 106 [.agg [.sl 155 3 (d.a.map aP)],.one (.sl 134 3 (l.map aO)),.one (.sl 138 4 (m.map aT))] (zQ d l m).1 (zQ d l m).2
def Tg (d:aU)(l:List bB)(m:List bG)(h1:cC d<=1048576)(h3:cE l<=1048576)(h4:cQ m<=1048576):FL d l m:=by
 refine cq Tryz.func106 (bN (zB d (1:Int))<| .br (.fin []) (.call (vB (iY d l m)) []<| aGQ<| .br (.fin []) (bN (Dz d)<| bN (D0 l)<| .app bG aT ([]:List bG) m<| .fin [(0,2600),(1,1200),(2,2900),(3,3200)]))) (p:=Lx (d.a.map aP)<| Lx (l.map aO)<| Lx (m.map aT)<| Dk d (1:Int)/\Nr ((eW d (1:Int)).2) (0=((iM d l m).1.j.D)/\(false)=((iM d l m).2)/\[]=(iM d l m).1.z.a.map aP/\[]=(iM d l m).1.j.a.map aJ/\[]=(iM d l m).1.y.map aO/\[]=(iM d l m).1.x.map aT/\True) (Bd d l m/\Nr (iY d l m) (0=((iM d l m).1.j.D)/\(false)=((iM d l m).2)/\[]=(iM d l m).1.z.a.map aP/\[]=(iM d l m).1.j.a.map aJ/\[]=(iM d l m).1.y.map aO/\[]=(iM d l m).1.x.map aT/\True) (Kb d/\Kc l/\Ap aT ([]:List bG) m 48 (((eW d (1:Int)).1.D)=((iM d l m).1.j.D)/\(true)=((iM d l m).2)/\d.a.map aP=(iM d l m).1.z.a.map aP/\(eW d (1:Int)).1.a.map aJ=(iM d l m).1.j.a.map aJ/\l.map aO=(iM d l m).1.y.map aO/\(([]:List bG)++m).map aT=(iM d l m).1.x.map aT/\True)))) ?_;refine lx fun n0=>lx fun n1=>lx fun n2=>?_;have hsm:=Ca d 1;have hI:=dZ m;have hS:fD ⟨d,(eW d 1).1,l,m⟩=cC d+dA (eW d 1).1+cE l+cQ m:=rfl;refine⟨Qx d (1:Int),dm (fun g17=>?_) fun g17=>?_⟩
 ·have hbad:((eW d 1).2&&iY d l m)=false:=by first|(simp[*];done)|(simp_all;done)
  refine⟨?_,?_,?_,?_,?_,?_,trivial⟩<;>(first|(rw[Be hbad]<;>rfl)|(rw[yD hok]<;>rfl))
 ·refine⟨NO _ _ _ aGR,dm (fun c0=>?_) fun c0=>?_⟩
  ·have hbad:((eW d 1).2&&iY d l m)=false:=by first|(simp[*];done)|(simp_all;done)
   refine⟨?_,?_,?_,?_,?_,?_,trivial⟩<;>(first|(rw[Be hbad]<;>rfl)|(rw[yD hok]<;>rfl))
  ·have hok:((eW d 1).2&&iY d l m)=true:=by first|(simp[*];done)|(simp_all;done)
   refine⟨Zr _ aGR,Zs _ aGR,?_⟩;refine ap ?_ (fun _=>rfl) (by first|omega|(simp;omega));refine⟨?_,?_,?_,?_,?_,?_,trivial⟩<;>(first|(rw[Be hbad]<;>rfl)|(rw[yD hok]<;>rfl))
structure QD where
 xs:List bB
 cu:Cu
def qdF (l:Z)(d:aU)(s:QD):QD:=if kR d (fJ l s.cu).1=true then ⟨s.xs++[(fJ l s.cu).1],(fJ l s.cu).2⟩ else ⟨s.xs,(fJ l s.cu).2⟩
structure QI where
 xs:List bG
 cu:Cu
def qiF (l:Z)(d:aU)(s:QI):QI:=if kS d (eD l s.cu).1=true/\(s.xs.length:Int)<4 then ⟨s.xs++[(eD l s.cu).1],(eD l s.cu).2⟩ else ⟨s.xs,(eD l s.cu).2⟩
theorem VF (l:Z)(d:aU)(s:QD): ∀j,(Lt (qdF l d) j s).xs.length<=s.xs.length+j
 | 0=>aFC _
 | j+1=>by
   have h:=VF l d s j;rw[Lt,qdF];split
   ·simp only[aEh,aEb,List.length_nil];omega
   dsimp only;omega
theorem PG {l:Z}{d:aU}{s:QD}(hs: ∀x∈s.xs,jY x<=5): ∀j,∀x∈(Lt (qdF l d) j s).xs,jY x<=5
 | 0,x,hx=>hs x hx
 | j+1,x,hx=>by
   rw[Lt,qdF] at hx;split at hx
   ·rcases aCy.1 hx with hx | hx
    ·exact PG hs j x hx
    rw[aFU.1 hx];exact TU l _
   exact PG hs j x hx
theorem VG (l:Z)(d:aU)(s:QI): ∀j,(Lt (qiF l d) j s).xs.length<=s.xs.length+j
 | 0=>aFC _
 | j+1=>by
   have h:=VG l d s j;rw[Lt,qiF];split
   ·simp only[aEh,aEb,List.length_nil];omega
   dsimp only;omega
theorem PH {l:Z}{d:aU}{s:QI}(hs: ∀x∈s.xs,nN x<=2): ∀j,∀x∈(Lt (qiF l d) j s).xs,nN x<=2
 | 0,x,hx=>hs x hx
 | j+1,x,hx=>by
   rw[Lt,qiF] at hx;split at hx
   ·rcases aCy.1 hx with hx | hx
    ·exact PH hs j x hx
    rw[aFU.1 hx];exact TV l _
   exact PH hs j x hx
def C3 (l:Z)(u:Cu):Int × Cu:=aC l (iP l u).2 6
def jO (l:Z)(u:Cu)(j:Nat):QD:=Lt (qdF l (iP l u).1) j ⟨[],(C3 l u).2⟩
def Zt (l:Z)(u:Cu):QD:=jO l u (C3 l u).1.toNat
def W5 (l:Z)(u:Cu):Int × Cu:=aC l (Zt l u).cu 12
def nK (l:Z)(u:Cu)(j:Nat):QI:=Lt (qiF l (iP l u).1) j ⟨[],(W5 l u).2⟩
def siE (l:Z)(u:Cu):QI:=nK l u (W5 l u).1.toNat
def fF (l:Z)(u:Cu):cA × Cu:=((iM (iP l u).1 (Zt l u).xs (siE l u).xs).1,(siE l u).cu)
def aDU (l:Z)(u:Cu)(j:Nat):cE (jO l u j).xs<=j+j*5/\(jO l u j).xs.length<=j:=by
 have h1:=VF l (iP l u).1 ⟨[],(C3 l u).2⟩ j;have h2:=yA (c:=jY) (PG (l:=l) (d:=(iP l u).1) (s:=⟨[],(C3 l u).2⟩) (by simp) j);simp only[List.length_nil,Nat.zero_add] at h1;refine⟨?_,h1⟩;show qG jY (Lt (qdF l (iP l u).1) j ⟨[],(C3 l u).2⟩).xs<=_;omega
def aDV (l:Z)(u:Cu)(j:Nat):cQ (nK l u j).xs<=j+j*2/\(nK l u j).xs.length<=j:=by
 have h1:=VG l (iP l u).1 ⟨[],(W5 l u).2⟩ j;have h2:=yA (c:=nN) (PH (l:=l) (d:=(iP l u).1) (s:=⟨[],(W5 l u).2⟩) (by simp) j);simp only[List.length_nil,Nat.zero_add] at h1;refine⟨?_,h1⟩;show qG nN (Lt (qiF l (iP l u).1) j ⟨[],(W5 l u).2⟩).xs<=_;omega
def aFh (l:Z)(u:Cu):cE (Zt l u).xs<=30:=by
 have h:=aDU l u (C3 l u).1.toNat;have h2:=fB l (iP l u).2 (n:=6) aGR;have e:(C3 l u).1=(aC l (iP l u).2 6).1:=rfl;show cE (jO l u (C3 l u).1.toNat).xs<=30;omega
def aFi (l:Z)(u:Cu):cQ (siE l u).xs<=33:=by
 have h:=aDV l u (W5 l u).1.toNat;have h2:=fB l (Zt l u).cu (n:=12) aGR;have e:(W5 l u).1=(aC l (Zt l u).cu 12).1:=rfl;show cQ (nK l u (W5 l u).1.toNat).xs<=33;omega
def Zu (l:Z)(u:Cu):fD (fF l u).1<=20300:=by
 have h1:=aDC l u;have h2:=aFh l u;have h3:=aFi l u;have h4:=Ra (iP l u).1 (Zt l u).xs (siE l u).xs;show fD (iM (iP l u).1 (Zt l u).xs (siE l u).xs).1<=_;omega
def VH (t:aQ):aQ:=⟨t.name,t.l,t.A+1,t.t⟩
def kC (l:Z)(u:Cu):Int × Cu:=aC l (fF l u).2 14
def saV (l:Z)(u:Cu):Int × Cu:=bZ l (kC l u).2 [0,999,1000,998]
def jE (l:Z)(u:Cu):cA × Cu:=
 if (kC l u).1=0 then (⟨(fF l u).1.z,⟨(saV l u).1,(fF l u).1.j.a⟩,(fF l u).1.y,(fF l u).1.x⟩,(saV l u).2)
 else if (kC l u).1=1 then (⟨(fF l u).1.z,(fF l u).1.j,(fF l u).1.y++[(fJ l (kC l u).2).1],(fF l u).1.x⟩,(fJ l (kC l u).2).2)
 else if (kC l u).1=2 then (⟨(fF l u).1.z,(fF l u).1.j,(fF l u).1.y,(fF l u).1.x++[(eD l (kC l u).2).1]⟩,(eD l (kC l u).2).2)
 else if (kC l u).1=3 then (⟨(fF l u).1.z,⟨(fF l u).1.j.D,vC (fF l u).1.j.a 0 VH⟩,(fF l u).1.y,(fF l u).1.x⟩,(kC l u).2)
 else if (kC l u).1=4 then (⟨(yM l (kC l u).2).1,(fF l u).1.j,(fF l u).1.y,(fF l u).1.x⟩,(yM l (kC l u).2).2)
 else ((fF l u).1,(kC l u).2)
def Zv {α:Type}{c:α->Nat}{f:α->α}(hf: ∀x,c (f x)=c x)(l:List α)(i:Nat):qG c (vC l i f)=qG c l:=by
 unfold vC;split
 ·rename_i e he;rw[qG,qG,aDF,List.map_set,hf]
  congr 2
  apply List.ext_getElem?;intro j;rw[List.getElem?_set];split
  ·rename_i hj;subst hj;rw[aGB,he,if_pos (by rw[aAb];exact(aCO.1 he).1)];rfl
  rfl
 rfl
def aFj (l:Z)(u:Cu):fD (jE l u).1<=21000:=by
 have h:=Zu l u;have e: ∀s:cA,fD s=cC s.z+iS s.j.a+cE s.y+cQ s.x:=fun _=>rfl;rw[e] at h;unfold jE;split
 ·rw[e];dsimp only;omega
 split
 ·have h2:=TU l (kC l u).2;have e2:cE ((fF l u).1.y++[(fJ l (kC l u).2).1])=cE (fF l u).1.y+1+jY (fJ l (kC l u).2).1:=Cb _ _ _;rw[e];dsimp only;omega
 split
 ·have h2:=TV l (kC l u).2;have e2:cQ ((fF l u).1.x++[(eD l (kC l u).2).1])=cQ (fF l u).1.x+1+nN (eD l (kC l u).2).1:=Cb _ _ _;rw[e];dsimp only;omega
 split
 ·have e2:iS (vC (fF l u).1.j.a 0 VH)=iS (fF l u).1.j.a:=Zv (c:=cP) (f:=VH) (fun _=>rfl) _ _;rw[e];dsimp only;omega
 split
 ·have h2:=aF4 l (kC l u).2;rw[e];dsimp only;omega
 rw[e];dsimp only;omega
def Zw {l:Z}{u:Cu}{j:Nat}(h:kR (iP l u).1 (fJ l (jO l u j).cu).1=true):jO l u (j+1)=⟨(jO l u j).xs++[(fJ l (jO l u j).cu).1],(fJ l (jO l u j).cu).2⟩:=by
 show qdF l (iP l u).1 (jO l u j)=_;rw[qdF,if_pos h]
def Zx {l:Z}{u:Cu}{j:Nat}(h:kR (iP l u).1 (fJ l (jO l u j).cu).1=false):jO l u (j+1)=⟨(jO l u j).xs,(fJ l (jO l u j).cu).2⟩:=by
 show qdF l (iP l u).1 (jO l u j)=_;rw[qdF,if_neg (by rw[h];decide)]
def Zy {l:Z}{u:Cu}{j:Nat}(h:kS (iP l u).1 (eD l (nK l u j).cu).1=true)(h2:((nK l u j).xs.length:Int)<4):nK l u (j+1)=⟨(nK l u j).xs++[(eD l (nK l u j).cu).1],(eD l (nK l u j).cu).2⟩:=by
 show qiF l (iP l u).1 (nK l u j)=_;rw[qiF,if_pos ⟨h,h2⟩]
def NP {l:Z}{u:Cu}{j:Nat}(h:kS (iP l u).1 (eD l (nK l u j).cu).1=false\/ ¬((nK l u j).xs.length:Int)<4):nK l u (j+1)=⟨(nK l u j).xs,(eD l (nK l u j).cu).2⟩:=by
 show qiF l (iP l u).1 (nK l u j)=_;rw[qiF,if_neg (by rintro⟨q1,q2⟩;rcases h with h | h;rw[h] at q1;cases q1;exact h q2)]
abbrev uD (l:Z)(u:Cu):List AV × aGJ × AV × aGJ:=([.ptr 0 0],[(0,.box 102 [.p none (.sl 5 1 (l.map bQ)),vI (u.i:Int),vI u.h])],.agg [.own 1,vI ((fF l u).1.j.D),.own 2,.own 3,.own 4],[(0,.box 102 [.p none (.sl 5 1 (l.map bQ)),vI (((fF l u).2.i:Nat):Int),vI ((fF l u).2.h)]),(1,.arr 155 3 true ((fF l u).1.z.a.map aP)),(2,.arr 112 4 true ((fF l u).1.j.a.map aJ)),(3,.arr 134 3 true ((fF l u).1.y.map aO)),(4,.arr 138 4 true ((fF l u).1.x.map aT))])
abbrev GS (l:Z)(u:Cu):Prop:=Cm 65 (uD l u).1 (uD l u).2.1 (uD l u).2.2.1 (uD l u).2.2.2
def VI (l:Z)(u:Cu)(hl:l.length<=1048576):GS l u:=by
 refine Ls Tryz.func65 (bH (GR l u) [(0,0)]<| bH (dX l ((iP l u).2) (6:Int)) [(0,0)]<| .loop Nat (Q1 Nat) ([4,5,6,14]++rg 17 13) [0,600,1400,2201,2800,2900] (fun j=>[(5,vI ((C3 l u).1 - (j:Int))),(4,.own 1400)]) (fun j=>[(1400,some (.arr 134 3 true ((jO l u j).xs.map aO))),(0,some (.box 102 [.p none (.sl 5 1 (l.map bQ)),vI (((jO l u j).cu.i:Nat):Int),vI ((jO l u j).cu.h)]))]) (fun j=>(j:Int)<=(C3 l u).1) (fun j=>((C3 l u).1 - j).toNat) (fun j=> .br (bH (Ce l ((jO l u j).cu)) [(0,0)]<| .call (vB (kR ((iP l u).1) ((fJ l ((jO l u j).cu)).1))) []<| .br (.appx bB aO ((jO l u j).xs) ((fJ l ((jO l u j).cu)).1)<| .back [(0,0),(1400,2900)]) (.back [(0,0),(1400,1400)])) (bH (dX l ((jO l u j).cu) (12:Int)) [(0,0)]<| .loop Nat (Q1 Nat) ([7,8,9,30]++rg 33 18) [0,900,3000,4900,5000] (fun k=>[(8,vI ((aC l (jO l u j).cu 12).1 - (k:Int))),(7,.own 3000)]) (fun k=>[(3000,some (.arr 138 4 true ((nK l u k).xs.map aT))),(0,some (.box 102 [.p none (.sl 5 1 (l.map bQ)),vI (((nK l u k).cu.i:Nat):Int),vI ((nK l u k).cu.h)]))]) (fun k=>(k:Int)<=(aC l (jO l u j).cu 12).1) (fun k=>((aC l (jO l u j).cu 12).1 - k).toNat) (fun k=> .br (bH (Ch l ((nK l u k).cu)) [(0,0)]<| .call (vB (kS ((iP l u).1) ((eD l ((nK l u k).cu)).1))) []<| .br (.len ((nK l u k).xs.length)<| aGQ<| .br (.app bG aT ((nK l u k).xs) ([((eD l ((nK l u k).cu)).1)]:List bG)<| .back [(0,0),(3000,5000)]) (.back [(0,0),(3000,3000)])) (.back [(0,0),(3000,3000)])) (bN (zQ ((iP l u).1) ((jO l u j).xs) ((nK l u k).xs))<| .fin [(0,0),(1,5500),(2,5501),(3,5502),(4,5503)]))))) (p:=TZ l u/\aGI l u ((eQ l ((iP l u).2) (6:Int)/\(6:Int)=6/\aGI l ((iP l u).2) (((∃(j:Nat),((C3 l u).1)=((C3 l u).1 - (j:Int))/\[]=(jO l u j).xs.map aO/\aGH l ((C3 l u).2) ((jO l u j).cu) ((j:Int)<=(C3 l u).1))/\ ∀(j:Nat),(j:Int)<=(C3 l u).1->Br (0<((C3 l u).1 - (j:Int))) (PE l ((jO l u j).cu)/\aGI l ((jO l u j).cu) (zO ((iP l u).1) ((fJ l ((jO l u j).cu)).1)/\Bb (kR ((iP l u).1) ((fJ l ((jO l u j).cu)).1)) ((jO l u j).xs.map aO=(jO l u j).xs.map aO/\(((fJ l ((jO l u j).cu)).1).name)=(((fJ l ((jO l u j).cu)).1).name)/\(((fJ l ((jO l u j).cu)).1).src).map intD=(((fJ l ((jO l u j).cu)).1).src).map intD/\(((fJ l ((jO l u j).cu)).1).dst)=(((fJ l ((jO l u j).cu)).1).dst)/\((jO l u j).xs.length+1)*48<=140737488355328/\bO (((C3 l u).1 - (j:Int)) - 1)/\ ∃(j' :Nat),(((C3 l u).1 - (j:Int)) - 1)=((C3 l u).1 - ((j' :Nat):Int))/\(((jO l u j).xs)++[((fJ l ((jO l u j).cu)).1)]).map aO=(jO l u j').xs.map aO/\aGH l ((fJ l ((jO l u j).cu)).2) ((jO l u j').cu) ((j' :Int)<=(C3 l u).1/\((C3 l u).1 - j').toNat<((C3 l u).1 - j).toNat)) (bO (((C3 l u).1 - (j:Int)) - 1)/\ ∃(j' :Nat),(((C3 l u).1 - (j:Int)) - 1)=((C3 l u).1 - ((j' :Nat):Int))/\(jO l u j).xs.map aO=(jO l u j').xs.map aO/\aGH l ((fJ l ((jO l u j).cu)).2) ((jO l u j').cu) ((j' :Int)<=(C3 l u).1/\((C3 l u).1 - j').toNat<((C3 l u).1 - j).toNat)))) (eQ l ((jO l u j).cu) (12:Int)/\(12:Int)=12/\aGI l ((jO l u j).cu) (((∃(k:Nat),((aC l ((jO l u j).cu) (12:Int)).1)=((aC l (jO l u j).cu 12).1 - (k:Int))/\[]=(nK l u k).xs.map aT/\aGH l ((aC l ((jO l u j).cu) (12:Int)).2) ((nK l u k).cu) ((k:Int)<=(aC l (jO l u j).cu 12).1))/\ ∀(k:Nat),(k:Int)<=(aC l (jO l u j).cu 12).1->Br (0<((aC l (jO l u j).cu 12).1 - (k:Int))) (PF l ((nK l u k).cu)/\aGI l ((nK l u k).cu) (zP ((iP l u).1) ((eD l ((nK l u k).cu)).1)/\Bb (kS ((iP l u).1) ((eD l ((nK l u k).cu)).1)) (Lm aT ((nK l u k).xs)/\Br ((((nK l u k).xs.length:Nat):Int)<4) (Ap aT ((nK l u k).xs) ([((eD l ((nK l u k).cu)).1)]:List bG) 48 (bO (((aC l (jO l u j).cu 12).1 - (k:Int)) - 1)/\ ∃(k' :Nat),(((aC l (jO l u j).cu 12).1 - (k:Int)) - 1)=((aC l (jO l u j).cu 12).1 - ((k' :Nat):Int))/\(((nK l u k).xs)++[((eD l ((nK l u k).cu)).1)]).map aT=(nK l u k').xs.map aT/\aGH l ((eD l ((nK l u k).cu)).2) ((nK l u k').cu) ((k' :Int)<=(aC l (jO l u j).cu 12).1/\((aC l (jO l u j).cu 12).1 - k').toNat<((aC l (jO l u j).cu 12).1 - k).toNat))) (bO (((aC l (jO l u j).cu 12).1 - (k:Int)) - 1)/\ ∃(k' :Nat),(((aC l (jO l u j).cu 12).1 - (k:Int)) - 1)=((aC l (jO l u j).cu 12).1 - ((k' :Nat):Int))/\(nK l u k).xs.map aT=(nK l u k').xs.map aT/\aGH l ((eD l ((nK l u k).cu)).2) ((nK l u k').cu) ((k' :Int)<=(aC l (jO l u j).cu 12).1/\((aC l (jO l u j).cu 12).1 - k').toNat<((aC l (jO l u j).cu 12).1 - k).toNat))) (bO (((aC l (jO l u j).cu 12).1 - (k:Int)) - 1)/\ ∃(k' :Nat),(((aC l (jO l u j).cu 12).1 - (k:Int)) - 1)=((aC l (jO l u j).cu 12).1 - ((k' :Nat):Int))/\(nK l u k).xs.map aT=(nK l u k').xs.map aT/\aGH l ((eD l ((nK l u k).cu)).2) ((nK l u k').cu) ((k' :Int)<=(aC l (jO l u j).cu 12).1/\((aC l (jO l u j).cu 12).1 - k').toNat<((aC l (jO l u j).cu 12).1 - k).toNat)))) (FL ((iP l u).1) ((jO l u j).xs) ((nK l u k).xs)/\((((iM ((iP l u).1) ((jO l u j).xs) ((nK l u k).xs)).1).j).D)=((fF l u).1.j.D)/\aGH l ((nK l u k).cu) ((fF l u).2) (((((iM ((iP l u).1) ((jO l u j).xs) ((nK l u k).xs)).1).z).a).map aP=(fF l u).1.z.a.map aP/\((((iM ((iP l u).1) ((jO l u j).xs) ((nK l u k).xs)).1).j).a).map aJ=(fF l u).1.j.a.map aJ/\(((iM ((iP l u).1) ((jO l u j).xs) ((nK l u k).xs)).1).y).map aO=(fF l u).1.y.map aO/\(((iM ((iP l u).1) ((jO l u j).xs) ((nK l u k).xs)).1).x).map aT=(fF l u).1.x.map aT/\True)))))))))) ?_;have hdb:=aDC l u;have w0:0<=(C3 l u).1/\(C3 l u).1<6:=fB l (iP l u).2 (n:=6) aGR;refine⟨aFf l u (by assumption),rfl,rfl,rfl,hZ l ((iP l u).2) (by assumption) (6:Int),rfl,rfl,rfl,rfl,⟨0,(by omega),(by rfl),(by rfl),(by rfl),(by rfl),aGR⟩,fun j hj=>?_⟩;have hz0:=aDU l u j;have hzd:=TU l (jO l u j).cu;apply dd<;>intro c0
 ·refine⟨aDS l ((jO l u j).cu) (by assumption),rfl,rfl,rfl,KZ ((iP l u).1) ((fJ l ((jO l u j).cu)).1) aGR,db (fun c1=>?_) fun c1=>?_⟩
  ·refine⟨rfl,rfl,rfl,rfl,aGR,aGS,?_⟩;exact⟨j+1,(by omega),(by (rw[Zw c1];done)),(by rfl),(by (rw[Zw c1];done)),(by (rw[Zw c1];done)),aGR,aGR⟩
  ·refine⟨aGS,?_⟩;exact⟨j+1,(by omega),(by (rw[Zx c1];done)),(by rfl),(by (rw[Zx c1];done)),(by (rw[Zx c1];done)),aGR,aGR⟩
 ·have ej:Zt l u=jO l u j:=by rw[Zt,show (C3 l u).1.toNat=j by omega]
  have w1:0<=(aC l (jO l u j).cu 12).1/\(aC l (jO l u j).cu 12).1<12:=fB l _ aGR;refine⟨hZ l ((jO l u j).cu) (by assumption) (12:Int),rfl,rfl,rfl,rfl,⟨0,(by omega),(by rfl),(by rfl),(by (simp only[nK,Lt,W5,ej];done)),(by (show _=(W5 l u).2.h;rw[W5,ej])),aGR⟩,fun k hk=>?_⟩;have hz1:=aDV l u k;have hzi:=TV l (nK l u k).cu;apply dd<;>intro c2
  ·refine⟨aDT l ((nK l u k).cu) (by assumption),rfl,rfl,rfl,Ka ((iP l u).1) ((eD l ((nK l u k).cu)).1) aGR,db (fun g42=>?_) fun g42=>?_⟩
   ·refine⟨aAb _,dd (fun c3=>?_) fun c3=>?_⟩
    ·refine ap ?_ (fun _=>rfl) (by (simp;omega));refine⟨aGS,?_⟩;exact⟨k+1,(by omega),(by (rw[Zy g42 c3];done)),(by rfl),(by (rw[Zy g42 c3];done)),(by (rw[Zy g42 c3];done)),aGR,aGR⟩
    ·refine⟨aGS,?_⟩;exact⟨k+1,(by omega),(by (rw[NP (.inr c3)];done)),(by rfl),(by (rw[NP (.inr c3)];done)),(by (rw[NP (.inr c3)];done)),aGR,aGR⟩
   ·refine⟨aGS,?_⟩;exact⟨k+1,(by omega),(by (rw[NP (.inl g42)];done)),(by rfl),(by (rw[NP (.inl g42)];done)),(by (rw[NP (.inl g42)];done)),aGR,aGR⟩
  ·have ek:siE l u=nK l u k:=by rw[siE,show (W5 l u).1.toNat=k by rw[W5,ej];omega]
   refine⟨Tg ((iP l u).1) _ _ aGR aGR aGR,?_,rfl,?_,?_,?_,?_,?_,?_,trivial⟩<;>((simp only[fF,ej,ek];done))
def aGf {l:Z}{u:Cu}(h:(kC l u).1=0):jE l u=(⟨(fF l u).1.z,⟨(saV l u).1,(fF l u).1.j.a⟩,(fF l u).1.y,(fF l u).1.x⟩,(saV l u).2):=by rw[jE,if_pos h]
def aGg {l:Z}{u:Cu}(h:(kC l u).1=1):jE l u=(⟨(fF l u).1.z,(fF l u).1.j,(fF l u).1.y++[(fJ l (kC l u).2).1],(fF l u).1.x⟩,(fJ l (kC l u).2).2):=by rw[jE,if_neg aGR,if_pos h]
def aGh {l:Z}{u:Cu}(h:(kC l u).1=2):jE l u=(⟨(fF l u).1.z,(fF l u).1.j,(fF l u).1.y,(fF l u).1.x++[(eD l (kC l u).2).1]⟩,(eD l (kC l u).2).2):=by rw[jE,if_neg aGR,if_neg aGR,if_pos h]
def aGi {l:Z}{u:Cu}{t:aQ}(h:(kC l u).1=3)(ht:(fF l u).1.j.a[0]? =some t):jE l u=(⟨(fF l u).1.z,⟨(fF l u).1.j.D,(fF l u).1.j.a.set 0 ⟨t.name,t.l,t.A+1,t.t⟩⟩,(fF l u).1.y,(fF l u).1.x⟩,(kC l u).2):=by
 rw[jE,if_neg aGR,if_neg aGR,if_neg aGR,if_pos h,FE ht];rfl
def aGj {l:Z}{u:Cu}(h:(kC l u).1=3)(ht:(fF l u).1.j.a.length=0):jE l u=((fF l u).1,(kC l u).2):=by
 rw[jE,if_neg aGR,if_neg aGR,if_neg aGR,if_pos h,aDE ht];have e:vC ([]:List aQ) 0 VH=(fF l u).1.j.a:=by rw[aDE ht];rfl
 rw[e]
def aGk {l:Z}{u:Cu}(h:(kC l u).1=4):jE l u=(⟨(yM l (kC l u).2).1,(fF l u).1.j,(fF l u).1.y,(fF l u).1.x⟩,(yM l (kC l u).2).2):=by rw[jE,if_neg aGR,if_neg aGR,if_neg aGR,if_neg aGR,if_pos h]
def aGl {l:Z}{u:Cu}(h0: ¬(kC l u).1=0)(h1: ¬(kC l u).1=1)(h2: ¬(kC l u).1=2)(h3: ¬(kC l u).1=3)(h4: ¬(kC l u).1=4):jE l u=((fF l u).1,(kC l u).2):=by rw[jE,if_neg h0,if_neg h1,if_neg h2,if_neg h3,if_neg h4]
def Zz (l:Z)(u:Cu):(fF l u).1.y.length<=20300/\(fF l u).1.x.length<=20300/\ ∀t∈(fF l u).1.j.a,0<=t.A/\t.A<=8:=by
 have h:=Zu l u;have e: ∀s:cA,fD s=cC s.z+iS s.j.a+cE s.y+cQ s.x:=fun _=>rfl;rw[e] at h;have h1:=xQ (fF l u).1.y;have h2:=dZ (fF l u).1.x;refine⟨aGR,aGR,?_⟩;show∀t∈(iM (iP l u).1 (Zt l u).xs (siE l u).xs).1.j.a,0<=t.A/\t.A<=8;cases q:(eW (iP l u).1 1).2&&iY (iP l u).1 (Zt l u).xs (siE l u).xs with
 | false=>rw[Be q];intro t ht;cases ht
 | true=>
   rw[yD q];rw[aBB] at q;cases e2:(kU (iP l u).1&&eZ 1 1 999) with
   | false=>rw[xW e2] at q;cases q.1
   | true=>
     rw[uB e2];intro t ht;obtain⟨x,hx,rfl⟩:=aE9.1 ht;rw[aBB] at e2;have hk:=aCS.1 (Q0 e2.1) x hx;rw[lD hk];have:=cJ hk;simp only;omega
abbrev vG (l:Z)(u:Cu):List AV × aGJ × AV × aGJ:=([.ptr 0 0],[(0,.box 102 [.p none (.sl 5 1 (l.map bQ)),vI (u.i:Int),vI u.h])],.agg [.p none (.sl 155 3 ((jE l u).1.z.a.map aP)),vI ((jE l u).1.j.D),.p none (.sl 112 4 ((jE l u).1.j.a.map aJ)),.p none (.sl 134 3 ((jE l u).1.y.map aO)),.p none (.sl 138 4 ((jE l u).1.x.map aT))],[(0,.box 102 [.p none (.sl 5 1 (l.map bQ)),vI (((jE l u).2.i:Nat):Int),vI ((jE l u).2.h)])])
abbrev Kd (l:Z)(u:Cu):Prop:=Cm 67 (vG l u).1 (vG l u).2.1 (vG l u).2.2.1 (vG l u).2.2.2
def Z0 (l:Z)(u:Cu)(hl:l.length<=1048576):Kd l u:=by
 refine Ls Tryz.func67 (bH (uD l u) [(0,0)]<| bH (dX l ((fF l u).2) (14:Int)) [(0,0)]<| .br (bH (iK l ((kC l u).2) ([(0:Int),(999:Int),(1000:Int),(998:Int)]:Z)) [(0,0),(1,1100)]<| .stlb 14 300<| .fin [(0,0)]) (.br (bH (Ce l ((kC l u).2)) [(0,0)]<| .appx bB aO ((fF l u).1.y) ((fJ l ((kC l u).2)).1)<| .stlb 14 300<| .fin [(0,0)]) (.br (bH (Ch l ((kC l u).2)) [(0,0)]<| .app bG aT ((fF l u).1.x) ([((eD l ((kC l u).2)).1)]:List bG)<| .stlb 14 300<| .fin [(0,0)]) (.br (.len ((fF l u).1.j.a.length)<| .br (.shal 11 502<| .len ((fF l u).1.j.a.length)<| .elem _ aJ ((fF l u).1.j.a) (fun e48=> .len ((fF l u).1.j.a.length)<| .setr aQ aJ ((fF l u).1.j.a) (fun s11_12=>(⟨s11_12.name,s11_12.l,e48.A+1,s11_12.t⟩:aQ)) (fun s11_12=> .stlb 14 300<| .fin [(0,0)]))) (.stlb 14 300<| .fin [(0,0)])) (.br (bH (FI l ((kC l u).2)) [(0,0)]<| .stlb 14 300<| .fin [(0,0)]) (.stlb 14 300<| .fin [(0,0)])))))) (p:=GS l u/\aGI l u ((eQ l ((fF l u).2) (14:Int)/\(14:Int)=14/\aGI l ((fF l u).2) (Br (((kC l u).1)=0) (kK l ((kC l u).2) ([(0:Int),(999:Int),(1000:Int),(998:Int)]:Z)/\aGI l ((kC l u).2) ([[.int .i64 (0:Int)],[.int .i64 (999:Int)],[.int .i64 (1000:Int)],[.int .i64 (998:Int)]]=([(0:Int),(999:Int),(1000:Int),(998:Int)]:Z).map intD/\(fF l u).1.z.a.map aP=(jE l u).1.z.a.map aP/\((saV l u).1)=((jE l u).1.j.D)/\(fF l u).1.j.a.map aJ=(jE l u).1.j.a.map aJ/\(fF l u).1.y.map aO=(jE l u).1.y.map aO/\(fF l u).1.x.map aT=(jE l u).1.x.map aT/\aGH l ((saV l u).2) ((jE l u).2) (True))) (Br (((kC l u).1)=1) (PE l ((kC l u).2)/\aGI l ((kC l u).2) ((fF l u).1.y.map aO=(fF l u).1.y.map aO/\(((fJ l ((kC l u).2)).1).name)=(((fJ l ((kC l u).2)).1).name)/\(((fJ l ((kC l u).2)).1).src).map intD=(((fJ l ((kC l u).2)).1).src).map intD/\(((fJ l ((kC l u).2)).1).dst)=(((fJ l ((kC l u).2)).1).dst)/\((fF l u).1.y.length+1)*48<=140737488355328/\(fF l u).1.z.a.map aP=(jE l u).1.z.a.map aP/\((fF l u).1.j.D)=((jE l u).1.j.D)/\(fF l u).1.j.a.map aJ=(jE l u).1.j.a.map aJ/\(((fF l u).1.y)++[((fJ l ((kC l u).2)).1)]).map aO=(jE l u).1.y.map aO/\(fF l u).1.x.map aT=(jE l u).1.x.map aT/\aGH l ((fJ l ((kC l u).2)).2) ((jE l u).2) (True))) (Br (((kC l u).1)=2) (PF l ((kC l u).2)/\aGI l ((kC l u).2) (Ap aT ((fF l u).1.x) ([((eD l ((kC l u).2)).1)]:List bG) 48 ((fF l u).1.z.a.map aP=(jE l u).1.z.a.map aP/\((fF l u).1.j.D)=((jE l u).1.j.D)/\(fF l u).1.j.a.map aJ=(jE l u).1.j.a.map aJ/\(fF l u).1.y.map aO=(jE l u).1.y.map aO/\(((fF l u).1.x)++[((eD l ((kC l u).2)).1)]).map aT=(jE l u).1.x.map aT/\aGH l ((eD l ((kC l u).2)).2) ((jE l u).2) (True)))) (Br (((kC l u).1)=3) (Lm aJ ((fF l u).1.j.a)/\Br (0<(((fF l u).1.j.a.length:Nat):Int)) (0<=(0:Int)/\Lm aJ ((fF l u).1.j.a)/\0<(((fF l u).1.j.a.length:Nat):Int)/\Em aJ ((fF l u).1.j.a) 0 fun e48=>bO (e48.A+1)/\(0<=(0:Int)/\Lm aJ ((fF l u).1.j.a)/\0<(((fF l u).1.j.a.length:Nat):Int)/\((fF l u).1.j.a.map aJ=(fF l u).1.j.a.map aJ/\0<(fF l u).1.j.a.length/\ ∀s11_12,((fF l u).1.j.a)[0]? =some s11_12->2+1<=(aJ s11_12).length/\(aJ s11_12).take 2++((aJ (⟨s11_12.name,s11_12.l,e48.A+1,s11_12.t⟩:aQ)).drop 2).take 1++(aJ s11_12).drop (2+1)=aJ (⟨s11_12.name,s11_12.l,e48.A+1,s11_12.t⟩:aQ)/\(e48.A+1)=((⟨s11_12.name,s11_12.l,e48.A+1,s11_12.t⟩:aQ).A)/\(fF l u).1.z.a.map aP=(jE l u).1.z.a.map aP/\((fF l u).1.j.D)=((jE l u).1.j.D)/\((fF l u).1.j.a.set 0 (⟨s11_12.name,s11_12.l,e48.A+1,s11_12.t⟩:aQ)).map aJ=(jE l u).1.j.a.map aJ/\(fF l u).1.y.map aO=(jE l u).1.y.map aO/\(fF l u).1.x.map aT=(jE l u).1.x.map aT/\aGH l ((kC l u).2) ((jE l u).2) (True)))) ((fF l u).1.z.a.map aP=(jE l u).1.z.a.map aP/\((fF l u).1.j.D)=((jE l u).1.j.D)/\(fF l u).1.j.a.map aJ=(jE l u).1.j.a.map aJ/\(fF l u).1.y.map aO=(jE l u).1.y.map aO/\(fF l u).1.x.map aT=(jE l u).1.x.map aT/\aGH l ((kC l u).2) ((jE l u).2) (True))) (Br (((kC l u).1)=4) (VB l ((kC l u).2)/\aGI l ((kC l u).2) ((((yM l ((kC l u).2)).1).a).map aP=(jE l u).1.z.a.map aP/\((fF l u).1.j.D)=((jE l u).1.j.D)/\(fF l u).1.j.a.map aJ=(jE l u).1.j.a.map aJ/\(fF l u).1.y.map aO=(jE l u).1.y.map aO/\(fF l u).1.x.map aT=(jE l u).1.x.map aT/\aGH l ((yM l ((kC l u).2)).2) ((jE l u).2) (True))) ((fF l u).1.z.a.map aP=(jE l u).1.z.a.map aP/\((fF l u).1.j.D)=((jE l u).1.j.D)/\(fF l u).1.j.a.map aJ=(jE l u).1.j.a.map aJ/\(fF l u).1.y.map aO=(jE l u).1.y.map aO/\(fF l u).1.x.map aT=(jE l u).1.x.map aT/\aGH l ((kC l u).2) ((jE l u).2) (True)))))))))) ?_;have hz:=Zz l u;refine⟨VI l u (by assumption),rfl,rfl,rfl,hZ l ((fF l u).2) (by assumption) (14:Int),rfl,rfl,rfl,rfl,dd (fun c0=>?_) fun c0=>?_⟩
 ·refine⟨qS l ((kC l u).2) (by assumption) ([(0:Int),(999:Int),(1000:Int),(998:Int)]:Z) (by decide),rfl,rfl,rfl,rfl,?_,?_,?_,?_,?_,rfl,?_,?_,trivial⟩<;>((rw[aGf c0]<;>rfl))
 ·apply dd<;>intro c1
  ·refine⟨aDS l ((kC l u).2) (by assumption),rfl,rfl,rfl,rfl,rfl,rfl,rfl,aGR,?_,?_,?_,?_,?_,rfl,?_,?_,trivial⟩<;>((rw[aGg c1]<;>rfl))
  ·apply dd<;>intro c2
   ·refine⟨aDT l ((kC l u).2) (by assumption),rfl,rfl,rfl,?_⟩;refine ap ?_ (fun _=>rfl) (by (simp;omega));refine⟨?_,?_,?_,?_,?_,rfl,?_,?_,trivial⟩<;>((rw[aGh c2]<;>rfl))
   ·apply dd<;>intro c3
    ·refine⟨aAb _,dd (fun c4=>?_) fun c4=>?_⟩
     ·refine⟨aGR,aAb _,aGR,rfl,aGR,fun e48 h48=>?_⟩;have hrc:=hz.2.2 e48 (aBD h48);refine⟨aGS,aGR,aAb _,aGR,rfl,aGR,fun s11_12 hs11_12=>?_⟩;refine⟨aBF rfl,rfl,rfl,?_,?_,?_,?_,?_,rfl,?_,?_,trivial⟩<;>(((have hq:=bE h48 hs11_12;subst hq);(rw[aGi c3 h48]<;>rfl)))
     ·refine⟨?_,?_,?_,?_,?_,rfl,?_,?_,trivial⟩<;>((rw[aGj c3 aGR]<;>rfl))
    ·apply dd<;>intro c5
     ·refine⟨aFg l ((kC l u).2) (by assumption),rfl,rfl,rfl,?_,?_,?_,?_,?_,rfl,?_,?_,trivial⟩<;>((rw[aGk c5]<;>rfl))
     ·refine⟨?_,?_,?_,?_,?_,rfl,?_,?_,trivial⟩<;>((rw[aGl c0 c1 c2 c3 c5]<;>rfl))
def vT (n:E)(x:aQ):Bool:=(x.name.toList==n.toList)&&cS x
def dJ (c:eO)(n:E):aQ × Bool:=match c.a.find? (vT n) with | some x=>(x,true) | none=>(vZ,false)
def GU {c:eO}{n:E}{x:aQ}(h:c.a.find? (vT n)=some x):dJ c n=(x,true):=by rw[dJ,h]
def Ke {c:eO}{n:E}(h:c.a.find? (vT n)=none):dJ c n=(vZ,false):=by rw[dJ,h]
def Rb (c:eO)(n:E):cP (dJ c n).1<=dA c:=by
 have hS:dA c=iS c.a:=rfl;cases h:c.a.find? (vT n) with
 | none=>rw[Ke h];exact aBC _
 | some x=>
   rw[GU h,hS];obtain⟨i,hi⟩:=List.getElem?_of_mem (List.mem_of_find?_eq_some h);exact oW hi
abbrev Hc (c:eO)(n:E):AV × aGJ:=(.tup [.agg [.p none (.str ((dJ c n).1.name)),vI ((dJ c n).1.l),vI ((dJ c n).1.A),.own 0],vB ((dJ c n).2)],[(0,.arr 187 3 true ((dJ c n).1.t.map aL))])
abbrev Rc (c:eO)(n:E):Prop:=Cn 76 [aHG c,.one (.str n)] (Hc c n).1 (Hc c n).2
def W6 (c:eO)(n:E)(hc:dA c<=1048576):Rc c n:=by
 refine cq Tryz.func76 (.len c.a.length<| .loop Nat (Q1 Nat) ([7]++rg 11 12++[25]) [700] (fun k=>[(11,vI (k:Int))]) (fun k=>[]) (fun k=>k<=c.a.length/\(c.a.take k).all (fun y=> !vT n y)=true) (fun k=>c.a.length - k) (fun k=> .br (.elem _ aJ c.a (fun e13=> .br (.call (vB (cS e13)) []<| .lit<| .br (bN (Dh e13)<| .fin [(0,2400)]) (.back [])) (.back []))) (.fin []))) (p:=Lx (c.a.map aJ)<| Lm aJ c.a/\((∃(k:Nat),0=(k:Int)/\k<=c.a.length/\(c.a.take k).all (fun y=> !vT n y)=true)/\ ∀(k:Nat),(k<=c.a.length/\(c.a.take k).all (fun y=> !vT n y)=true)->Br ((k:Int)<(c.a.length:Int)) (0<=(k:Int)/\Em aJ c.a k fun e13=>Bb (e13.name.toList==n.toList) (Di e13/\Bb (cS e13) (Jo e13/\e13.name=((dJ c n).1.name)/\e13.l=((dJ c n).1.l)/\e13.A=((dJ c n).1.A)/\(true)=((dJ c n).2)/\e13.t.map aL=(dJ c n).1.t.map aL/\True) (bO ((k:Int)+1)/\ ∃(k' :Nat),((k:Int)+1)=(k' :Int)/\(k' <=c.a.length/\(c.a.take k').all (fun y=> !vT n y)=true)/\c.a.length - k' <c.a.length - k)) (bO ((k:Int)+1)/\ ∃(k' :Nat),((k:Int)+1)=(k' :Int)/\(k' <=c.a.length/\(c.a.take k').all (fun y=> !vT n y)=true)/\c.a.length - k' <c.a.length - k)) (ByteArray.empty=((dJ c n).1.name)/\0=((dJ c n).1.l)/\0=((dJ c n).1.A)/\(false)=((dJ c n).2)/\[]=(dJ c n).1.t.map aL/\True))) ?_;refine lx fun n0=>?_;have hS:dA c=iS c.a:=rfl;refine⟨aAb _,⟨0,rfl,aBC _,rfl⟩,fun k ⟨hk,ha⟩=>?_⟩;apply dd<;>intro c0
 ·refine⟨aGR,rfl,aGR,fun e13 h13=>?_⟩
  try (obtain rfl:=(bE h13 h13).symm)
  have q1:=oW h13;apply db<;>intro g19
  ·refine⟨Qo _ aGR,db (fun c1=>?_) fun c1=>?_⟩
   ·have hf:=O1 (p:=vT n) h13 ha (by simp[vT,g19,c1]);refine⟨Y7 _ aGR,?_,?_,?_,?_,?_,trivial⟩<;>((rw[GU hf]<;>rfl))
   ·refine⟨aGS,?_⟩;exact⟨k+1,rfl,⟨aGR,cL h13 ha (by (simp[vT,g19,c1];done))⟩,aGR⟩
  ·refine⟨aGS,?_⟩;exact⟨k+1,rfl,⟨aGR,cL h13 ha (by (simp[vT,g19];done))⟩,aGR⟩
 ·have hall:=O2 (dD aGR ha);apply et5<;>((rw[Ke hall]<;>rfl))
abbrev Hd (c:eO)(n:E):AV × aGJ:=(.tup [.agg [.p none (.str ((dJ c n).1.name)),vI ((dJ c n).1.l),vI ((dJ c n).1.A),.own 0],vB ((dJ c n).2)],[(0,.arr 187 3 true ((dJ c n).1.t.map aL))])
abbrev Re (c:eO)(n:E):Prop:=Cn 136 [aHG c,.one (.str n)] (Hd c n).1 (Hd c n).2
def W7 (c:eO)(n:E)(hc:dA c<=1048576):Re c n:=by
 refine cq Tryz.func136 (.loop Nat (Q1 Nat) (rg 6 24) [] (fun k=>[(6,vI (k:Int))]) (fun k=>[]) (fun k=>k<=c.a.length/\(c.a.take k).all (fun y=> !vT n y)=true) (fun k=>c.a.length - k) (fun k=> .len c.a.length<| .br (.elem _ aJ c.a (fun e17=> .br (.elem _ aJ c.a (fun e26=> .call (vB (cS e26)) []<| .lit<| .br (.elem _ aJ c.a (fun e33=>bN (Dy e33)<| .fin [(0,3500)])) (.back []))) (.back []))) (.fin []))) (p:=Lx (c.a.map aJ)<| (∃(k:Nat),0=(k:Int)/\k<=c.a.length/\(c.a.take k).all (fun y=> !vT n y)=true)/\ ∀(k:Nat),(k<=c.a.length/\(c.a.take k).all (fun y=> !vT n y)=true)->Lm aJ c.a/\Br ((k:Int)<(c.a.length:Int)) (0<=(k:Int)/\Em aJ c.a k fun e17=>Bb (e17.name.toList==n.toList) (0<=(k:Int)/\Em aJ c.a k fun e26=>zL e26/\Bb (cS e26) (0<=(k:Int)/\Em aJ c.a k fun e33=>KY e33/\e33.name=((dJ c n).1.name)/\e33.l=((dJ c n).1.l)/\e33.A=((dJ c n).1.A)/\(true)=((dJ c n).2)/\e33.t.map aL=(dJ c n).1.t.map aL/\True) (bO ((k:Int)+1)/\ ∃(k' :Nat),((k:Int)+1)=(k' :Int)/\(k' <=c.a.length/\(c.a.take k').all (fun y=> !vT n y)=true)/\c.a.length - k' <c.a.length - k)) (bO ((k:Int)+1)/\ ∃(k' :Nat),((k:Int)+1)=(k' :Int)/\(k' <=c.a.length/\(c.a.take k').all (fun y=> !vT n y)=true)/\c.a.length - k' <c.a.length - k)) (ByteArray.empty=((dJ c n).1.name)/\0=((dJ c n).1.l)/\0=((dJ c n).1.A)/\(false)=((dJ c n).2)/\[]=(dJ c n).1.t.map aL/\True)) ?_;refine lx fun n0=>?_;have hS:dA c=iS c.a:=rfl;refine⟨⟨0,rfl,aBC _,rfl⟩,fun k ⟨hk,ha⟩=>?_⟩;refine⟨aAb _,dd (fun c0=>?_) fun c0=>?_⟩
 ·refine⟨aGR,rfl,aGR,fun e17 h17=>?_⟩
  try (obtain rfl:=(bE h17 h17).symm)
  have q1:=oW h17;apply db<;>intro g22
  ·refine⟨aGR,rfl,aGR,fun e26 h26=>?_⟩
   try (obtain rfl:=(bE h17 h26).symm)
   refine⟨KL _ aGR,db (fun c1=>?_) fun c1=>?_⟩
   ·have hf:=O1 (p:=vT n) h17 ha (by simp[vT,g22,c1]);refine⟨aGR,rfl,aGR,fun e33 h33=>?_⟩
    try (obtain rfl:=(bE h17 h33).symm)
    refine⟨Zq _ aGR,?_,?_,?_,?_,?_,trivial⟩<;>((rw[GU hf]<;>rfl))
   ·refine⟨aGS,?_⟩;exact⟨k+1,rfl,⟨aGR,cL h17 ha (by (simp[vT,g22,c1];done))⟩,aGR⟩
  ·refine⟨aGS,?_⟩;exact⟨k+1,rfl,⟨aGR,cL h17 ha (by (simp[vT,g22];done))⟩,aGR⟩
 ·have hall:=O2 (dD aGR ha);apply et5<;>((rw[Ke hall]<;>rfl))
def iZ (d:aU)(q:aV):Bool:=bR q&&q.k.all fun a=>(aM d a.name).2&&decide ((aM d a.name).1.l=(a.vars.length:Nat))
def He (s:cA)(q:aV)(m:Int):Bool:=jH s&&(iZ s.z q&&eZ m 1 (nR q))
def jA (s:cA)(q:aV)(i:Nat):aQ:=(dJ s.j (q.k.getD i oG).name).1
def W8 {d:aU}{q:aV}(h:iZ d q=true):bR q=true/\ ∀a∈q.k,(aM d a.name).2=true/\(aM d a.name).1.l=(a.vars.length:Nat):=by
 simp only[iZ,aBB] at h;exact⟨h.1,fun a ha=>by simpa using aCS.1 h.2 a ha⟩
def GV {s:cA}{q:aV}{m:Int}(h:He s q m=true):jH s=true/\iZ s.z q=true/\bR q=true/\1<=m/\m<=1*2^q.k.length - 1/\m<=15/\lQ q m=true/\(1<=q.k.length/\q.k.length<=4):=by
 simp only[He,aBB] at h;have h1:=eU h.2.2;have h2:=(W8 h.2.1).1;have h3:=eJ h2;have h4:=pK h3.2.1;rw[GP h2] at h1;exact⟨h.1,h.2.1,h2,h1.1,h1.2,aGR,by rw[lQ,h2,qF aGR h1.2];rfl,h3.2.1⟩
abbrev Kf (d:aU)(q:aV):Prop:=Cn 73 [.agg [.sl 155 3 (d.a.map aP)],aGr q] (vB (iZ d q)) []
def Z1 (d:aU)(q:aV)(hc:cC d<=1048576):Kf d q:=by
 refine cq Tryz.func73 (.call (vB (bR q)) []<| .br (.fin []) (.len q.k.length<| .loop Nat (Q1 Nat) ([6,7,8]++rg 15 22) [600,700] (fun k=>[(15,vI (k:Int))]) (fun k=>[]) (fun k=>k<=q.k.length/\(q.k.take k).all (fun a=>(aM d a.name).2&&decide ((aM d a.name).1.l=(a.vars.length:Nat)))=true) (fun k=>q.k.length - k) (fun k=> .br (.elem _ bA q.k (fun e17=> .call (.tup [.agg [.p none (.str ((aM d e17.name).1.name)),vI ((aM d e17.name).1.l),.p none (.sl 51 1 ((aM d e17.name).1.rows.map aD))],vB ((aM d e17.name).2)]) []<| .br (.fin []) (.len e17.vars.length<| aGQ<| .br (.fin []) (.back [])))) (.fin [])))) (p:=Lx (d.a.map aP)<| Lx (q.k.map bA)<| zN q/\Nr (bR q) ((false)=(iZ d q)/\True) (Lm bA q.k/\((∃(k:Nat),0=(k:Int)/\k<=q.k.length/\(q.k.take k).all (fun a=>(aM d a.name).2&&decide ((aM d a.name).1.l=(a.vars.length:Nat)))=true)/\ ∀(k:Nat),(k<=q.k.length/\(q.k.take k).all (fun a=>(aM d a.name).2&&decide ((aM d a.name).1.l=(a.vars.length:Nat)))=true)->Br ((k:Int)<(q.k.length:Int)) (0<=(k:Int)/\Em bA q.k k fun e17=>xK Tryz.prog 117 [.agg [.sl 155 3 (d.a.map aP)],.one (.str e17.name)] (.tup [.agg [.p none (.str ((aM d e17.name).1.name)),vI ((aM d e17.name).1.l),.p none (.sl 51 1 ((aM d e17.name).1.rows.map aD))],vB ((aM d e17.name).2)]) []/\Nr ((aM d e17.name).2) ((false)=(iZ d q)/\True) (Lm intD e17.vars/\Nb (((aM d e17.name).1.l)=(e17.vars.length:Int)) ((false)=(iZ d q)/\True) (bO ((k:Int)+1)/\ ∃(k' :Nat),((k:Int)+1)=(k' :Int)/\(k' <=q.k.length/\(q.k.take k').all (fun a=>(aM d a.name).2&&decide ((aM d a.name).1.l=(a.vars.length:Nat)))=true)/\q.k.length - k' <q.k.length - k))) ((true)=(iZ d q)/\True)))) ?_;refine lx fun n0=>lx fun n1=>?_;refine⟨KU q,dm (fun c0=>?_) fun c0=>?_⟩
 ·apply et1
  ·(rw[iZ,c0];rfl)
 ·refine⟨aAb _,⟨0,rfl,aBC _,rfl⟩,fun k ⟨hk,ha⟩=>?_⟩;apply dd<;>intro c1
  ·refine⟨aGR,rfl,aGR,fun e17 h17=>?_⟩
   try (obtain rfl:=(bE h17 h17).symm)
   refine⟨lV (uX _ e17.name aGR) rfl,dm (fun g28=>?_) fun g28=>?_⟩
   ·have hA:((aM d e17.name).2&&decide ((aM d e17.name).1.l=(e17.vars.length:Nat)))=false:=by (rw[g28];rfl)
    apply et1
    ·(rw[iZ,eT h17 hA,Bool.and_false];done)
   ·refine⟨aAb _,dn (fun c2=>?_) fun c2=>?_⟩
    ·have hA:((aM d e17.name).2&&decide ((aM d e17.name).1.l=(e17.vars.length:Nat)))=false:=by (rw[g28];simp[c2];done)
     apply et1
     ·(rw[iZ,eT h17 hA,Bool.and_false];done)
    ·have hA:((aM d e17.name).2&&decide ((aM d e17.name).1.l=(e17.vars.length:Nat)))=true:=by rw[g28];simp[c2]
     refine⟨aGS,?_⟩;exact⟨k+1,rfl,⟨aGR,cL h17 ha hA⟩,aGR⟩
  ·apply et1
   ·(rw[iZ,c0,dD aGR ha];rfl)
abbrev Hf (q:aV):Prop:=Cn 74 [aGr q] (vI (nR q)) []
def W9 (q:aV):Hf q:=by
 refine cq Tryz.func74 (.call (vB (bR q)) []<| .br (.fin []) (.len q.k.length<| .fin [])) (p:=Lx (q.k.map bA)<| zN q/\Nr (bR q) (0=(nR q)/\True) (Lm bA q.k/\(0<=(q.k.length:Int)/\(q.k.length:Int)<=64)/\bO ((1:Int)*2^q.k.length)/\bO (((1:Int)*2^q.k.length) - 1)/\(((1:Int)*2^q.k.length) - 1)=(nR q)/\True)) ?_;refine lx fun n0=>?_;refine⟨KU q,dm (fun c0=>?_) fun c0=>?_⟩
 ·apply et1
  ·(rw[RN c0];done)
 ·have w:=pK (eJ c0).2.1;have w2:=(eJ c0).2.1;refine⟨aAb _,aGS,aGS,aGS,?_,trivial⟩
  ·(rw[GP c0];done)
abbrev Kg (d:aU)(q:aV):Prop:=Cn 129 [.agg [.sl 155 3 (d.a.map aP)],aGr q] (vB (iZ d q)) []
def Z2 (d:aU)(q:aV)(hc:cC d<=1048576):Kg d q:=by
 refine cq Tryz.func129 (.call (vB (bR q)) []<| .br (.fin []) (.loop Nat (Q1 Nat) ([5,6,7]++rg 11 32) [600] (fun k=>[(5,vI (k:Int))]) (fun k=>[]) (fun k=>k<=q.k.length/\(q.k.take k).all (fun a=>(aM d a.name).2&&decide ((aM d a.name).1.l=(a.vars.length:Nat)))=true) (fun k=>q.k.length - k) (fun k=> .len q.k.length<| .br (.elem _ bA q.k (fun e23=> .call (.tup [.agg [.p none (.str ((aM d e23.name).1.name)),vI ((aM d e23.name).1.l),.p none (.sl 51 1 ((aM d e23.name).1.rows.map aD))],vB ((aM d e23.name).2)]) []<| .br (.fin []) (.elem _ bA q.k (fun e37=> .len e37.vars.length<| aGQ<| .br (.fin []) (.back []))))) (.fin [])))) (p:=Lx (d.a.map aP)<| Lx (q.k.map bA)<| nS q/\Nr (bR q) ((false)=(iZ d q)/\True) ((∃(k:Nat),0=(k:Int)/\k<=q.k.length/\(q.k.take k).all (fun a=>(aM d a.name).2&&decide ((aM d a.name).1.l=(a.vars.length:Nat)))=true)/\ ∀(k:Nat),(k<=q.k.length/\(q.k.take k).all (fun a=>(aM d a.name).2&&decide ((aM d a.name).1.l=(a.vars.length:Nat)))=true)->Lm bA q.k/\Br ((k:Int)<(q.k.length:Int)) (0<=(k:Int)/\Em bA q.k k fun e23=>xK Tryz.prog 167 [.agg [.sl 155 3 (d.a.map aP)],.one (.str e23.name)] (.tup [.agg [.p none (.str ((aM d e23.name).1.name)),vI ((aM d e23.name).1.l),.p none (.sl 51 1 ((aM d e23.name).1.rows.map aD))],vB ((aM d e23.name).2)]) []/\Nr ((aM d e23.name).2) ((false)=(iZ d q)/\True) (0<=(k:Int)/\Em bA q.k k fun e37=>Lm intD e37.vars/\Nb (((aM d e23.name).1.l)=(e37.vars.length:Int)) ((false)=(iZ d q)/\True) (bO ((k:Int)+1)/\ ∃(k' :Nat),((k:Int)+1)=(k' :Int)/\(k' <=q.k.length/\(q.k.take k').all (fun a=>(aM d a.name).2&&decide ((aM d a.name).1.l=(a.vars.length:Nat)))=true)/\q.k.length - k' <q.k.length - k))) ((true)=(iZ d q)/\True))) ?_;refine lx fun n0=>lx fun n1=>?_;refine⟨vF q,dm (fun c0=>?_) fun c0=>?_⟩
 ·apply et1
  ·(rw[iZ,c0];rfl)
 ·refine⟨⟨0,rfl,aBC _,rfl⟩,fun k ⟨hk,ha⟩=>?_⟩;refine⟨aAb _,dd (fun c1=>?_) fun c1=>?_⟩
  ·refine⟨aGR,rfl,aGR,fun e23 h23=>?_⟩
   try (obtain rfl:=(bE h23 h23).symm)
   refine⟨lV (uY _ e23.name aGR) rfl,dm (fun g31=>?_) fun g31=>?_⟩
   ·have hA:((aM d e23.name).2&&decide ((aM d e23.name).1.l=(e23.vars.length:Nat)))=false:=by (rw[g31];rfl)
    apply et1
    ·(rw[iZ,eT h23 hA,Bool.and_false];done)
   ·refine⟨aGR,rfl,aGR,fun e37 h37=>?_⟩
    try (obtain rfl:=(bE h23 h37).symm)
    refine⟨aAb _,dn (fun c2=>?_) fun c2=>?_⟩
    ·have hA:((aM d e23.name).2&&decide ((aM d e23.name).1.l=(e23.vars.length:Nat)))=false:=by (rw[g31];simp[c2];done)
     apply et1
     ·(rw[iZ,eT h23 hA,Bool.and_false];done)
    ·have hA:((aM d e23.name).2&&decide ((aM d e23.name).1.l=(e23.vars.length:Nat)))=true:=by rw[g31];simp[c2]
     refine⟨aGS,?_⟩;exact⟨k+1,rfl,⟨aGR,cL h23 ha hA⟩,aGR⟩
  ·apply et1
   ·(rw[iZ,c0,dD aGR ha];rfl)
abbrev Bf (q:aV):Prop:=Cn 32 [aGr q] (vI (nR q)) []
def NQ (q:aV):Bf q:=by
 refine cq Tryz.func32 (.call (vB (bR q)) []<| .br (.fin []) (.len q.k.length<| .fin [])) (p:=Lx (q.k.map bA)<| nS q/\Nr (bR q) (0=(nR q)/\True) (Lm bA q.k/\(0<=(q.k.length:Int)/\(q.k.length:Int)<=64)/\bO ((1:Int)*2^q.k.length)/\bO (((1:Int)*2^q.k.length) - 1)/\(((1:Int)*2^q.k.length) - 1)=(nR q)/\True)) ?_;refine lx fun n0=>?_;refine⟨vF q,dm (fun c0=>?_) fun c0=>?_⟩
 ·apply et1
  ·(rw[RN c0];done)
 ·have w:=pK (eJ c0).2.1;have w2:=(eJ c0).2.1;refine⟨aAb _,aGS,aGS,aGS,?_,trivial⟩
  ·(rw[GP c0];done)
abbrev D1 (m:Int):AV × aGJ:=(.own 0,[(0,.arr 3 1 true ((gM m).map intD))])
abbrev Kh (m:Int):Prop:=Cn 75 [.one (.int .i64 m)] (D1 m).1 (D1 m).2
def Z3 (m:Int):Kh m:=by
 refine cq Tryz.func75 (.call (vB (eZ m (0:Int) (15:Int))) []<| .br (.fin []) (.loop (Nat × Z) (Q2 Nat Z) ([3,4]++rg 8 14) [800,2000,2100] (fun yy0=>[(4,vI (yy0.1:Int)),(3,.own 800)]) (fun yy0=>[(800,some (.arr 3 1 true (yy0.2.map intD)))]) (fun yy0=>yy0.1<=4/\yy0.2=gK (gX m) yy0.1) (fun yy0=>4 - yy0.1) (fun yy0=> .br (.br (.app Int intD yy0.2 ([(yy0.1:Int)]:Z)<| .back [(800,2100)]) (.back [(800,800)])) (.fin [(0,800)])))) (p:=fX m (0:Int) (15:Int)/\Nr (eZ m (0:Int) (15:Int)) ([]=(gM m).map intD/\True) ((∃(i:Nat) (out:Z),0=(i:Int)/\[]=out.map intD/\i<=4/\out=gK (gX m) i)/\ ∀(i:Nat) (out:Z),(i<=4/\out=gK (gX m) i)->Br ((i:Int)<4) ((0<=(i:Int)/\(i:Int)<=64)/\Br ((cH .and .i64 (m/2^i) (1:Int))=1) (Ap intD out ([(i:Int)]:Z) 8 (bO ((i:Int)+1)/\ ∃(i' :Nat) (out' :Z),((i:Int)+1)=(i' :Int)/\(out++[(i:Int)]).map intD=out'.map intD/\(i' <=4/\out' =gK (gX m) i')/\4 - i' <4 - i)) (bO ((i:Int)+1)/\ ∃(i' :Nat) (out' :Z),((i:Int)+1)=(i' :Int)/\out.map intD=out'.map intD/\(i' <=4/\out' =gK (gX m) i')/\4 - i' <4 - i)) (out.map intD=(gM m).map intD/\True))) ?_;refine⟨kP _ _ _,dm (fun c0=>?_) fun c0=>?_⟩
 ·apply et1
  ·(rw[RM c0];rfl)
 ·refine⟨⟨0,([]:Z),rfl,rfl,aGR,rfl⟩,fun i out ⟨hi,ho⟩=>?_⟩;apply dd<;>intro c1
  ·refine⟨aGS,dd (fun c2=>?_) fun c2=>?_⟩
   ·refine ap ?_ (fun _=>rfl) (by (rw[ho];have:=vA (gX m) i;simp only[aEb,List.length_nil];omega));refine⟨aGS,?_⟩;exact⟨i+1,_,rfl,rfl,⟨aGR,by (rw[ho,uZ (IH c2)];done)⟩,aGR⟩
   ·refine⟨aGS,?_⟩;exact⟨i+1,_,rfl,rfl,⟨aGR,by (rw[ho,wI (GK c2)];done)⟩,aGR⟩
  ·apply et1
   ·(rw[GO c0,ho,show i=4 by omega])
abbrev Ki (q:aV)(m:Int):Prop:=Cn 78 [aGr q,.one (.int .i64 m)] (vB (lQ q m)) []
def Z4 (q:aV)(m:Int):Ki q m:=by
 refine cq Tryz.func78 (.call (vB (bR q)) []<| .br (.len q.k.length<| .call (vB (eZ m (0:Int) (((1:Int)*2^q.k.length) - 1))) []<| .fin []) (.fin [])) (p:=Lx (q.k.map bA)<| zN q/\Bb (bR q) (Lm bA q.k/\(0<=(q.k.length:Int)/\(q.k.length:Int)<=64)/\bO ((1:Int)*2^q.k.length)/\bO (((1:Int)*2^q.k.length) - 1)/\fX m (0:Int) (((1:Int)*2^q.k.length) - 1)/\(eZ m (0:Int) (((1:Int)*2^q.k.length) - 1))=(lQ q m)/\True) ((false)=(lQ q m)/\True)) ?_;refine lx fun n0=>?_;refine⟨KU q,db (fun g7=>?_) fun g7=>?_⟩
 ·have w:=pK (eJ g7).2.1;have w2:=(eJ g7).2.1;refine⟨aAb _,aGS,aGS,aGS,kP _ _ _,?_,trivial⟩
  ·(rw[lQ,g7];rfl)
 ·apply et1
  ·(rw[lQ,g7];rfl)
abbrev Kj (q:aV)(m:Int):Prop:=Cn 62 [aGr q,.one (.int .i64 m)] (vB (lQ q m)) []
def Z5 (q:aV)(m:Int):Kj q m:=by
 refine cq Tryz.func62 (.call (vB (bR q)) []<| .br (.len q.k.length<| .call (vB (eZ m (0:Int) (((1:Int)*2^q.k.length) - 1))) []<| .fin []) (.fin [])) (p:=Lx (q.k.map bA)<| nS q/\Bb (bR q) (Lm bA q.k/\(0<=(q.k.length:Int)/\(q.k.length:Int)<=64)/\bO ((1:Int)*2^q.k.length)/\bO (((1:Int)*2^q.k.length) - 1)/\fO m (0:Int) (((1:Int)*2^q.k.length) - 1)/\(eZ m (0:Int) (((1:Int)*2^q.k.length) - 1))=(lQ q m)/\True) ((false)=(lQ q m)/\True)) ?_;refine lx fun n0=>?_;refine⟨vF q,db (fun g7=>?_) fun g7=>?_⟩
 ·have w:=pK (eJ g7).2.1;have w2:=(eJ g7).2.1;refine⟨aAb _,aGS,aGS,aGS,jV _ _ _,?_,trivial⟩
  ·(rw[lQ,g7];rfl)
 ·apply et1
  ·(rw[lQ,g7];rfl)
abbrev Bg (q:aV)(m:Int):AV × aGJ:=(.own 0,[(0,.arr 3 1 true ((HG q m).map intD))])
abbrev Hg (q:aV)(m:Int):Prop:=Cn 79 [aGr q,.one (.int .i64 m)] (Bg q m).1 (Bg q m).2
def XA (q:aV)(m:Int)(hq:bR q=true):Hg q m:=by
 refine cq Tryz.func79 (.loop (Nat × Z) (Q2 Nat Z) (rg 5 35) [800,900,3700,3800] (fun yy0=>[(6,vI (yy0.1:Int)),(5,.own 900)]) (fun yy0=>[(900,some (.arr 3 1 true (yy0.2.map intD)))]) (fun yy0=>(yy0.1:Int)<=q.g/\yy0.2=gK (MH q m) yy0.1) (fun yy0=>q.g.toNat - yy0.1) (fun yy0=> .br (.len q.k.length<| .loop Nat (Q1 Nat) ([7,8]++rg 19 16++[39]) [800] (fun i=>[(19,vI (i:Int))]) (fun i=>[]) (fun i=>i<=q.k.length/\zJ q m i yy0.1=false) (fun i=>q.k.length - i) (fun i=> .br (.elem _ bA q.k (fun e22=> .br (.call (vB (decide ((yy0.1:Int)∈e22.vars))) []<| .lit<| .br (.app Int intD yy0.2 ([(yy0.1:Int)]:Z)<| .back [(900,3800)]) (.back [])) (.back []))) (.back [(900,900)]))) (.fin [(0,900)]))) (p:=Lx (q.k.map bA)<| (∃(v:Nat) (out:Z),0=(v:Int)/\[]=out.map intD/\(v:Int)<=q.g/\out=gK (MH q m) v)/\ ∀(v:Nat) (out:Z),((v:Int)<=q.g/\out=gK (MH q m) v)->Br ((v:Int)<q.g) (Lm bA q.k/\((∃(i:Nat),0=(i:Int)/\i<=q.k.length/\zJ q m i v=false)/\ ∀(i:Nat),(i<=q.k.length/\zJ q m i v=false)->Br ((i:Int)<(q.k.length:Int)) (0<=(i:Int)/\Em bA q.k i fun e22=>(0<=(i:Int)/\(i:Int)<=64)/\Br ((cH .and .i64 (m/2^i) (1:Int))=1) (Q5 e22.vars (v:Int)/\Bb (decide ((v:Int)∈e22.vars)) (Ap intD out ([(v:Int)]:Z) 8 (bO ((v:Int)+1)/\ ∃(v' :Nat) (out' :Z),((v:Int)+1)=(v' :Int)/\(out++[(v:Int)]).map intD=out'.map intD/\((v' :Int)<=q.g/\out' =gK (MH q m) v')/\q.g.toNat - v' <q.g.toNat - v)) (bO ((i:Int)+1)/\ ∃(i' :Nat),((i:Int)+1)=(i' :Int)/\(i' <=q.k.length/\zJ q m i' v=false)/\q.k.length - i' <q.k.length - i)) (bO ((i:Int)+1)/\ ∃(i' :Nat),((i:Int)+1)=(i' :Int)/\(i' <=q.k.length/\zJ q m i' v=false)/\q.k.length - i' <q.k.length - i)) (bO ((v:Int)+1)/\ ∃(v' :Nat) (out' :Z),((v:Int)+1)=(v' :Int)/\out.map intD=out'.map intD/\((v' :Int)<=q.g/\out' =gK (MH q m) v')/\q.g.toNat - v' <q.g.toNat - v))) (out.map intD=(HG q m).map intD/\True)) ?_;refine lx fun n0=>?_;have w:=(eJ hq).1;have w2:=(eJ hq).2.1;refine⟨⟨0,([]:Z),rfl,rfl,aGR,rfl⟩,fun v out ⟨hv,ho⟩=>?_⟩;apply dd<;>intro c0
 ·refine⟨aAb _,⟨0,rfl,aBC _,rfl⟩,fun i ⟨hi,hn⟩=>?_⟩;apply dd<;>intro c1
  ·refine⟨aGR,rfl,aGR,fun e22 h22=>?_⟩;refine⟨aGS,dd (fun g29=>?_) fun g29=>?_⟩
   ·refine⟨ctI _ _,db (fun c2=>?_) fun c2=>?_⟩
    ·have hT:MH q m v=true:=aCV h22 (IH g29) c2;refine ap ?_ (fun _=>rfl) (by (rw[ho];have:=vA (MH q m) v;simp only[aEb,List.length_nil];omega));refine⟨aGS,?_⟩;exact⟨v+1,_,rfl,rfl,⟨aGR,by (rw[ho,uZ hT];done)⟩,aGR⟩
    ·refine⟨aGS,?_⟩;exact⟨i+1,rfl,⟨aGR,by rw[Cc,hn,bK h22];(rw[c2];simp;done)⟩,aGR⟩
   ·refine⟨aGS,?_⟩;exact⟨i+1,rfl,⟨aGR,by rw[Cc,hn,bK h22];(rw[GK g29];rfl)⟩,aGR⟩
  ·have hF:MH q m v=false:=by rw[MH,show q.k.length=i by omega];exact hn
   refine⟨aGS,?_⟩;exact⟨v+1,_,rfl,rfl,⟨aGR,by (rw[ho,wI hF];done)⟩,aGR⟩
 ·apply et1
  ·rw[HG,ho,show q.g.toNat=v by omega]
abbrev Bh (q:aV)(m:Int):AV × aGJ:=(.own 0,[(0,.arr 3 1 true ((cN q m).map intD))])
abbrev Hh (q:aV)(m:Int):Prop:=Cn 35 [aGr q,.one (.int .i64 m)] (Bh q m).1 (Bh q m).2
def XB (q:aV)(m:Int):Hh q m:=by
 refine cq Tryz.func35 (.call (vB (lQ q m)) []<| .br (.fin []) (bN (Bg q m)<| .fin [(0,1100)])) (p:=Lx (q.k.map bA)<| Ki q m/\Nr (lQ q m) ([]=(cN q m).map intD/\True) (Hg q m/\(HG q m).map intD=(cN q m).map intD/\True)) ?_;refine lx fun n0=>?_;refine⟨Z4 _ m,dm (fun c0=>?_) fun c0=>?_⟩
 ·apply et1
  ·(rw[RL c0];rfl)
 ·refine⟨XA q m (by exact(zK (q:=q) (m:=m) (by assumption)).1),?_,trivial⟩
  ·(rw[NJ c0])
abbrev FM (q:aV)(m:Int):Prop:=Cn 64 [aGr q,.one (.int .i64 m)] (vI (m4 (MH q m))) []
def Th (q:aV)(m:Int)(hq:bR q=true):FM q m:=by
 refine cq Tryz.func64 (.loop (Nat × Int) (Q2 Nat Int) (rg 5 40) [] (fun yy0=>[(6,vI (yy0.1:Int)),(5,vI yy0.2)]) (fun yy0=>[]) (fun yy0=>yy0.1<=q.k.length/\yy0.2=m4 (zJ q m yy0.1)) (fun yy0=>q.k.length - yy0.1) (fun yy0=> .len q.k.length<| .br (.loop (Nat × Int) (Q2 Nat Int) ([5,7]++rg 15 30) [] (fun yy1=>[(7,vI (yy1.1:Int)),(5,vI yy1.2)]) (fun yy1=>[]) (fun yy1=>yy1.1<=(q.k.getD yy0.1 oG).vars.length/\yy1.2=m4 (H7 q m (q.k.getD yy0.1 oG) yy0.1 yy1.1)) (fun yy1=>(q.k.getD yy0.1 oG).vars.length - yy1.1) (fun yy1=> .elem _ bA q.k (fun e19=> .len e19.vars.length<| .br (aGN<| .br (.elem _ bA q.k (fun e37=> .elem _ intD e37.vars (fun e41=> .back []))) (.back [])) (.back [])))) (.fin []))) (p:=Lx (q.k.map bA)<| (∃(i:Nat) (o:Int),0=(i:Int)/\0=o/\i<=q.k.length/\o=m4 (zJ q m i))/\ ∀(i:Nat) (o:Int),(i<=q.k.length/\o=m4 (zJ q m i))->Lm bA q.k/\Br ((i:Int)<(q.k.length:Int)) ((∃(k:Nat) (p:Int),0=(k:Int)/\o=p/\k<=(q.k.getD i oG).vars.length/\p=m4 (H7 q m (q.k.getD i oG) i k))/\ ∀(k:Nat) (p:Int),(k<=(q.k.getD i oG).vars.length/\p=m4 (H7 q m (q.k.getD i oG) i k))->0<=(i:Int)/\Em bA q.k i fun e19=>Lm intD e19.vars/\Br ((k:Int)<(e19.vars.length:Int)) ((0<=(i:Int)/\(i:Int)<=64)/\Br ((cH .and .i64 (m/2^i) (1:Int))=1) (0<=(i:Int)/\Em bA q.k i fun e37=>0<=(k:Int)/\Em intD e37.vars k fun e41=>(0<=e41/\e41<=64)/\bO ((1:Int)*2^(Int.toNat e41))/\bO ((k:Int)+1)/\ ∃(k' :Nat) (p' :Int),((k:Int)+1)=(k' :Int)/\(cH .or .i64 p ((1:Int)*2^(Int.toNat e41)))=p' /\(k' <=(q.k.getD i oG).vars.length/\p' =m4 (H7 q m (q.k.getD i oG) i k'))/\(q.k.getD i oG).vars.length - k' <(q.k.getD i oG).vars.length - k) (bO ((i:Int)+1)/\ ∃(i' :Nat) (o' :Int),((i:Int)+1)=(i' :Int)/\p=o' /\(i' <=q.k.length/\o' =m4 (zJ q m i'))/\q.k.length - i' <q.k.length - i)) (bO ((i:Int)+1)/\ ∃(i' :Nat) (o' :Int),((i:Int)+1)=(i' :Int)/\p=o' /\(i' <=q.k.length/\o' =m4 (zJ q m i'))/\q.k.length - i' <q.k.length - i)) (o=(m4 (MH q m))/\True)) ?_;refine lx fun n0=>?_;have w:=(eJ hq).1;have w2:=(eJ hq).2;refine⟨⟨0,(0:Int),rfl,rfl,aBC _,rfl⟩,fun i o ⟨hi,ho⟩=>?_⟩;refine⟨aAb _,dd (fun c0=>?_) fun c0=>?_⟩
 ·obtain⟨a,ha⟩:=fK (l:=q.k) (k:=i) aGR;have w3:=(nQ (w2.2 a (aBD ha))).2;have hga:q.k.getD i oG=a:=bK ha;have hgl:(q.k.getD i oG).vars.length=a.vars.length:=by rw[hga]
  refine⟨⟨0,o,rfl,rfl,aBC _,by rw[ho,Wi]⟩,fun k p ⟨hk,hp⟩=>?_⟩;rw[hga] at hp;refine⟨aGR,rfl,aGR,fun e19 h19=>?_⟩;obtain rfl:=(bE ha h19).symm;refine⟨aAb _,dd (fun g24=>?_) fun g24=>?_⟩
  ·refine⟨aGS,dd (fun c1=>?_) fun c1=>?_⟩
   ·refine⟨aGR,rfl,aGR,fun e37 h37=>?_⟩;obtain rfl:=(bE ha h37).symm;refine⟨aGR,rfl,aGR,fun e41 h41=>?_⟩;have w8:=w3.2 _ (aBD h41);obtain⟨w4,w5,w6⟩:=GQ (x:=e41) (qF aGR aGR);refine⟨aGS,by exact w4,by exact aGS,?_⟩;exact⟨k+1,_,rfl,rfl,⟨aGR,by rw[hga,hp,ZJ aGR,Wj (IH c1) h41 aGR]⟩,aGR⟩
   ·refine⟨by exact aGS,?_⟩;exact⟨i+1,_,rfl,rfl,⟨aGR,by (rw[hp,NK ha (.inl (GK c1))];done)⟩,aGR⟩
  ·refine⟨by exact aGS,?_⟩;exact⟨i+1,_,rfl,rfl,⟨aGR,by (rw[hp,NK ha (.inr aGR)];done)⟩,aGR⟩
 ·apply et1
  ·rw[ho,show i=q.k.length by omega];rfl
abbrev zS (m:Int):AV × aGJ:=(.own 0,[(0,.arr 3 1 true ((gK (gX m) 4).map intD))])
abbrev FN (m:Int):Prop:=Cn 63 [.one (.int .i64 m)] (zS m).1 (zS m).2
def Ti (m:Int):FN m:=by
 refine cq Tryz.func63 (.loop (Nat × Z) (Q2 Nat Z) (rg 3 16) [500,1700,1800] (fun yy0=>[(4,vI (yy0.1:Int)),(3,.own 500)]) (fun yy0=>[(500,some (.arr 3 1 true (yy0.2.map intD)))]) (fun yy0=>yy0.1<=4/\yy0.2=gK (gX m) yy0.1) (fun yy0=>4 - yy0.1) (fun yy0=> .br (.br (.app Int intD yy0.2 ([(yy0.1:Int)]:Z)<| .back [(500,1800)]) (.back [(500,500)])) (.fin [(0,500)]))) (p:=(∃(i:Nat) (out:Z),0=(i:Int)/\[]=out.map intD/\i<=4/\out=gK (gX m) i)/\ ∀(i:Nat) (out:Z),(i<=4/\out=gK (gX m) i)->Br ((i:Int)<4) ((0<=(i:Int)/\(i:Int)<=64)/\Br ((cH .and .i64 (m/2^i) (1:Int))=1) (Ap intD out ([(i:Int)]:Z) 8 (bO ((i:Int)+1)/\ ∃(i' :Nat) (out' :Z),((i:Int)+1)=(i' :Int)/\(out++[(i:Int)]).map intD=out'.map intD/\(i' <=4/\out' =gK (gX m) i')/\4 - i' <4 - i)) (bO ((i:Int)+1)/\ ∃(i' :Nat) (out' :Z),((i:Int)+1)=(i' :Int)/\out.map intD=out'.map intD/\(i' <=4/\out' =gK (gX m) i')/\4 - i' <4 - i)) (out.map intD=(gK (gX m) 4).map intD/\True)) ?_;refine⟨⟨0,([]:Z),rfl,rfl,aGR,rfl⟩,fun i out ⟨hi,ho⟩=>?_⟩;apply dd<;>intro c0
 ·refine⟨aGS,dd (fun c1=>?_) fun c1=>?_⟩
  ·refine ap ?_ (fun _=>rfl) (by (rw[ho];have:=vA (gX m) i;simp only[aEb,List.length_nil];omega));refine⟨aGS,?_⟩;exact⟨i+1,_,rfl,rfl,⟨aGR,by (rw[ho,uZ (IH c1)];done)⟩,aGR⟩
  ·refine⟨aGS,?_⟩;exact⟨i+1,_,rfl,rfl,⟨aGR,by (rw[ho,wI (GK c1)];done)⟩,aGR⟩
 ·apply et1
  ·rw[ho,show i=4 by omega]
abbrev wL (q:aV)(m:Int):AV × aGJ:=(.own 0,[(0,.arr 3 1 true ((cN q m).map intD))])
abbrev Bi (q:aV)(m:Int):Prop:=Cn 28 [aGr q,.one (.int .i64 m)] (wL q m).1 (wL q m).2
def NR (q:aV)(m:Int):Bi q m:=by
 refine cq Tryz.func28 (.call (vB (lQ q m)) []<| .br (.fin [(0,900)]) (.call (vI (m4 (MH q m))) []<| bN (zS (m4 (MH q m)))<| .fin [(0,1300)])) (p:=Lx (q.k.map bA)<| Kj q m/\Nr (lQ q m) ([]=(cN q m).map intD/\True) (FM q m/\FN (m4 (MH q m))/\(gK (gX (m4 (MH q m))) 4).map intD=(cN q m).map intD/\True)) ?_;refine lx fun n0=>?_;refine⟨Z5 _ m,dm (fun c0=>?_) fun c0=>?_⟩
 ·apply et1
  ·(rw[RL c0];rfl)
 ·refine⟨Th q m (by exact(zK (q:=q) (m:=m) (by assumption)).1),Ti (m4 (MH q m)),?_,trivial⟩
  ·(rw[NJ c0,TW (zK c0).1])
def mkE (q:aV):Int:=(1:Int)*2^(Int.toNat (if (q.k.length:Int)<4 then (q.k.length:Int) else (4:Int)))
def Sc (l:Z)(u:Cu)(q:aV):Int × Cu:=if (aC l u 10).1=0 then bZ l (aC l u 10).2 [-1,0,16,9223372036854775807] else aC l (aC l u 10).2 (mkE q)
def aGm {l:Z}{u:Cu}{q:aV}(h:(aC l u 10).1=0):Sc l u q=bZ l (aC l u 10).2 [-1,0,16,9223372036854775807]:=by rw[Sc,if_pos h]
def aGn {l:Z}{u:Cu}{q:aV}(h: ¬(aC l u 10).1=0):Sc l u q=aC l (aC l u 10).2 (mkE q):=by rw[Sc,if_neg h]
def aCY (q:aV):0<=(if (q.k.length:Int)<4 then (q.k.length:Int) else (4:Int))/\(if (q.k.length:Int)<4 then (q.k.length:Int) else (4:Int))<=4/\bO (mkE q):=by
 have h:0<=(if (q.k.length:Int)<4 then (q.k.length:Int) else (4:Int))/\(if (q.k.length:Int)<4 then (q.k.length:Int) else (4:Int))<=4:=by split<;>omega
 refine⟨h.1,h.2,?_⟩;unfold mkE;generalize (if (q.k.length:Int)<4 then (q.k.length:Int) else (4:Int))=n at h ⊢;have hn:n=0\/n=1\/n=2\/n=3\/n=4:=aGR
 unfold bO;rcases hn with rfl | rfl | rfl | rfl | rfl<;>exact⟨by decide,by decide⟩
abbrev Bj (l:Z)(u:Cu)(q:aV):List AV × aGJ × AV × aGJ:=([.ptr 0 0,.agg [vI q.g,.p none (.sl 116 2 (q.k.map bA))]],[(0,.box 102 [.p none (.sl 5 1 (l.map bQ)),vI (u.i:Int),vI u.h])],vI ((Sc l u q).1),[(0,.box 102 [.p none (.sl 5 1 (l.map bQ)),vI (((Sc l u q).2.i:Nat):Int),vI ((Sc l u q).2.h)])])
abbrev Rf (l:Z)(u:Cu)(q:aV):Prop:=Cm 33 (Bj l u q).1 (Bj l u q).2.1 (Bj l u q).2.2.1 (Bj l u q).2.2.2
def aEi (l:Z)(u:Cu)(hl:l.length<=1048576)(q:aV):Rf l u q:=by
 refine Ls Tryz.func33 (bH (iA l u (10:Int)) [(0,0)]<| .br (bH (iK l ((aC l u (10:Int)).2) ([(-1:Int),(0:Int),(16:Int),(9223372036854775807:Int)]:Z)) [(0,0),(1,800)]<| .fin [(0,0)]) (.len q.k.length<| bH (dX l ((aC l u (10:Int)).2) ((1:Int)*2^(Int.toNat (if (q.k.length:Int)<4 then (q.k.length:Int) else (4:Int))))) [(0,0)]<| .fin [(0,0)])) (p:=jR l u (10:Int)/\(10:Int)=10/\aGI l u (Br ((aC l u (10:Int)).1=0) (kK l ((aC l u (10:Int)).2) ([(-1:Int),(0:Int),(16:Int),(9223372036854775807:Int)]:Z)/\aGI l ((aC l u (10:Int)).2) ([[.int .i64 (-1:Int)],[.int .i64 (0:Int)],[.int .i64 (16:Int)],[.int .i64 (9223372036854775807:Int)]]=([(-1:Int),(0:Int),(16:Int),(9223372036854775807:Int)]:Z).map intD/\((bZ l ((aC l u (10:Int)).2) ([(-1:Int),(0:Int),(16:Int),(9223372036854775807:Int)]:Z)).1)=((Sc l u q).1)/\aGH l ((bZ l ((aC l u (10:Int)).2) ([(-1:Int),(0:Int),(16:Int),(9223372036854775807:Int)]:Z)).2) ((Sc l u q).2) (True))) (Lm bA q.k/\(0<=(if (q.k.length:Int)<4 then (q.k.length:Int) else (4:Int))/\(if (q.k.length:Int)<4 then (q.k.length:Int) else (4:Int))<=64)/\bO ((1:Int)*2^(Int.toNat (if (q.k.length:Int)<4 then (q.k.length:Int) else (4:Int))))/\eQ l ((aC l u (10:Int)).2) ((1:Int)*2^(Int.toNat (if (q.k.length:Int)<4 then (q.k.length:Int) else (4:Int))))/\((1:Int)*2^(Int.toNat (if (q.k.length:Int)<4 then (q.k.length:Int) else (4:Int))))=((1:Int)*2^(Int.toNat (if (q.k.length:Int)<4 then (q.k.length:Int) else (4:Int))))/\aGI l ((aC l u (10:Int)).2) (((aC l ((aC l u (10:Int)).2) ((1:Int)*2^(Int.toNat (if (q.k.length:Int)<4 then (q.k.length:Int) else (4:Int))))).1)=((Sc l u q).1)/\aGH l ((aC l ((aC l u (10:Int)).2) ((1:Int)*2^(Int.toNat (if (q.k.length:Int)<4 then (q.k.length:Int) else (4:Int))))).2) ((Sc l u q).2) (True))))) ?_;obtain⟨w1,w2,w3⟩:=aCY q;refine⟨pI l u (by assumption) (10:Int),rfl,rfl,rfl,rfl,dd (fun c0=>?_) fun c0=>?_⟩
 ·refine⟨qS l ((aC l u (10:Int)).2) (by assumption) ([(-1:Int),(0:Int),(16:Int),(9223372036854775807:Int)]:Z) (by decide),rfl,rfl,rfl,rfl,?_,rfl,?_,?_,trivial⟩<;>((rw[aGm c0]<;>rfl))
 ·refine⟨aAb _,aGS,by exact w3,hZ l ((aC l u (10:Int)).2) (by assumption) ((1:Int)*2^(Int.toNat (if (q.k.length:Int)<4 then (q.k.length:Int) else (4:Int)))),rfl,rfl,rfl,rfl,?_,rfl,?_,?_,trivial⟩<;>((rw[aGn c0]<;>rfl))
def VJ (l:Z)(u:Cu):aV × Cu:=dO l (fF l u).2
def oM (l:Z)(u:Cu):Int × Cu:=aC l (VJ l u).2 14
def vU (l:Z)(u:Cu):cA × Cu:=if (oM l u).1=0 then jE l (oM l u).2 else ((fF l u).1,(oM l u).2)
def paP (l:Z)(u:Cu):Int × Cu:=aC l (vU l u).2 14
def oY (l:Z)(u:Cu):aV × Cu:=if (paP l u).1=0 then kW l (paP l u).2 else ((VJ l u).1,(paP l u).2)
def aGo {l:Z}{u:Cu}(h:(oM l u).1=0):vU l u=jE l (oM l u).2:=by rw[vU,if_pos h]
def aGp {l:Z}{u:Cu}(h: ¬(oM l u).1=0):vU l u=((fF l u).1,(oM l u).2):=by rw[vU,if_neg h]
def aFl {l:Z}{u:Cu}{s:cA × Cu}(hs:vU l u=s)(h:(aC l s.2 14).1=0):oY l u=kW l (aC l s.2 14).2:=by rw[oY,paP,hs,if_pos h]
def aFm {l:Z}{u:Cu}{s:cA × Cu}(hs:vU l u=s)(h: ¬(aC l s.2 14).1=0):oY l u=((VJ l u).1,(aC l s.2 14).2):=by rw[oY,paP,hs,if_neg h]
def aGq (l:Z)(u:Cu):fD (vU l u).1<=21000/\iN (oY l u).1<=40:=by
 refine⟨?_,?_⟩
 ·unfold vU;split
  ·exact aFj l _
  have:=Zu l u;dsimp only;omega
 unfold oY;split
 ·exact aG2 l _
 have:=aDO (PB l (fF l u).2);show iN (dO l (fF l u).2).1<=40;omega
abbrev Bk (l:Z)(u:Cu):List AV × aGJ × AV × aGJ:=([.ptr 0 0],[(0,.box 102 [.p none (.sl 5 1 (l.map bQ)),vI (u.i:Int),vI u.h])],.tup [.agg [.p none (.sl 155 3 ((vU l u).1.z.a.map aP)),vI ((vU l u).1.j.D),.p none (.sl 112 4 ((vU l u).1.j.a.map aJ)),.p none (.sl 134 3 ((vU l u).1.y.map aO)),.p none (.sl 138 4 ((vU l u).1.x.map aT))],.agg [vI ((oY l u).1.g),.p none (.sl 116 2 ((oY l u).1.k.map bA))]],[(0,.box 102 [.p none (.sl 5 1 (l.map bQ)),vI (((oY l u).2.i:Nat):Int),vI ((oY l u).2.h)])])
abbrev Rg (l:Z)(u:Cu):Prop:=Cm 30 (Bk l u).1 (Bk l u).2.1 (Bk l u).2.2.1 (Bk l u).2.2.2
def aEj (l:Z)(u:Cu)(hl:l.length<=1048576):Rg l u:=by
 refine Ls Tryz.func30 (bH (uD l u) [(0,0)]<| bH (Cd l ((fF l u).2)) [(0,0)]<| bH (iA l ((VJ l u).2) (14:Int)) [(0,0)]<| .br (bH (vG l ((oM l u).2)) [(0,0)]<| bH (iA l ((jE l ((oM l u).2)).2) (14:Int)) [(0,0)]<| .br (bH (yC l ((aC l ((jE l ((oM l u).2)).2) (14:Int)).2)) [(0,0)]<| .stlb 7 400<| .stlb 7 500<| .fin [(0,0)]) (.stlb 7 400<| .stlb 7 500<| .fin [(0,0)])) (bH (iA l ((oM l u).2) (14:Int)) [(0,0)]<| .br (bH (yC l ((aC l ((oM l u).2) (14:Int)).2)) [(0,0)]<| .stlb 7 400<| .stlb 7 500<| .fin [(0,0)]) (.stlb 7 400<| .stlb 7 500<| .fin [(0,0)]))) (p:=GS l u/\aGI l u (PC l ((fF l u).2)/\aGI l ((fF l u).2) (jR l ((VJ l u).2) (14:Int)/\(14:Int)=14/\aGI l ((VJ l u).2) (Br ((oM l u).1=0) (Kd l ((oM l u).2)/\aGI l ((oM l u).2) (jR l ((jE l ((oM l u).2)).2) (14:Int)/\(14:Int)=14/\aGI l ((jE l ((oM l u).2)).2) (Br ((aC l ((jE l ((oM l u).2)).2) (14:Int)).1=0) (KX l ((aC l ((jE l ((oM l u).2)).2) (14:Int)).2)/\aGI l ((aC l ((jE l ((oM l u).2)).2) (14:Int)).2) (((((jE l ((oM l u).2)).1).z).a).map aP=(vU l u).1.z.a.map aP/\((((jE l ((oM l u).2)).1).j).D)=((vU l u).1.j.D)/\((((jE l ((oM l u).2)).1).j).a).map aJ=(vU l u).1.j.a.map aJ/\(((jE l ((oM l u).2)).1).y).map aO=(vU l u).1.y.map aO/\(((jE l ((oM l u).2)).1).x).map aT=(vU l u).1.x.map aT/\(((kW l ((aC l ((jE l ((oM l u).2)).2) (14:Int)).2)).1).g)=((oY l u).1.g)/\(((kW l ((aC l ((jE l ((oM l u).2)).2) (14:Int)).2)).1).k).map bA=(oY l u).1.k.map bA/\aGH l ((kW l ((aC l ((jE l ((oM l u).2)).2) (14:Int)).2)).2) ((oY l u).2) (True))) (((((jE l ((oM l u).2)).1).z).a).map aP=(vU l u).1.z.a.map aP/\((((jE l ((oM l u).2)).1).j).D)=((vU l u).1.j.D)/\((((jE l ((oM l u).2)).1).j).a).map aJ=(vU l u).1.j.a.map aJ/\(((jE l ((oM l u).2)).1).y).map aO=(vU l u).1.y.map aO/\(((jE l ((oM l u).2)).1).x).map aT=(vU l u).1.x.map aT/\((VJ l u).1.g)=((oY l u).1.g)/\(VJ l u).1.k.map bA=(oY l u).1.k.map bA/\aGH l ((aC l ((jE l ((oM l u).2)).2) (14:Int)).2) ((oY l u).2) (True))))) (jR l ((oM l u).2) (14:Int)/\(14:Int)=14/\aGI l ((oM l u).2) (Br ((aC l ((oM l u).2) (14:Int)).1=0) (KX l ((aC l ((oM l u).2) (14:Int)).2)/\aGI l ((aC l ((oM l u).2) (14:Int)).2) ((fF l u).1.z.a.map aP=(vU l u).1.z.a.map aP/\((fF l u).1.j.D)=((vU l u).1.j.D)/\(fF l u).1.j.a.map aJ=(vU l u).1.j.a.map aJ/\(fF l u).1.y.map aO=(vU l u).1.y.map aO/\(fF l u).1.x.map aT=(vU l u).1.x.map aT/\(((kW l ((aC l ((oM l u).2) (14:Int)).2)).1).g)=((oY l u).1.g)/\(((kW l ((aC l ((oM l u).2) (14:Int)).2)).1).k).map bA=(oY l u).1.k.map bA/\aGH l ((kW l ((aC l ((oM l u).2) (14:Int)).2)).2) ((oY l u).2) (True))) ((fF l u).1.z.a.map aP=(vU l u).1.z.a.map aP/\((fF l u).1.j.D)=((vU l u).1.j.D)/\(fF l u).1.j.a.map aJ=(vU l u).1.j.a.map aJ/\(fF l u).1.y.map aO=(vU l u).1.y.map aO/\(fF l u).1.x.map aT=(vU l u).1.x.map aT/\((VJ l u).1.g)=((oY l u).1.g)/\(VJ l u).1.k.map bA=(oY l u).1.k.map bA/\aGH l ((aC l ((oM l u).2) (14:Int)).2) ((oY l u).2) (True)))))))) ?_;refine⟨VI l u (by assumption),rfl,rfl,rfl,aDR l ((fF l u).2) (by assumption),rfl,rfl,rfl,pI l ((VJ l u).2) (by assumption) (14:Int),rfl,rfl,rfl,rfl,dd (fun c0=>?_) fun c0=>?_⟩
 ·have eS:=aGo c0;refine⟨Z0 l ((oM l u).2) (by assumption),rfl,rfl,rfl,pI l ((jE l ((oM l u).2)).2) (by assumption) (14:Int),rfl,rfl,rfl,rfl,dd (fun c1=>?_) fun c1=>?_⟩
  ·have eR:=aFl eS c1;refine⟨Zp l ((aC l ((jE l ((oM l u).2)).2) (14:Int)).2) (by assumption),rfl,rfl,rfl,?_,?_,?_,?_,?_,?_,?_,rfl,?_,?_,trivial⟩<;>(first|(rw[eS]<;>rfl)|(rw[eR]<;>rfl))
  ·have eR:=aFm eS c1;refine⟨?_,?_,?_,?_,?_,?_,?_,rfl,?_,?_,trivial⟩<;>(first|(rw[eS]<;>rfl)|(rw[eR]<;>rfl))
 ·have eS:=aGp c0;refine⟨pI l ((oM l u).2) (by assumption) (14:Int),rfl,rfl,rfl,rfl,dd (fun c1=>?_) fun c1=>?_⟩
  ·have eR:=aFl eS c1;refine⟨Zp l ((aC l ((oM l u).2) (14:Int)).2) (by assumption),rfl,rfl,rfl,?_,?_,?_,?_,?_,?_,?_,rfl,?_,?_,trivial⟩<;>(first|(rw[eS]<;>rfl)|(rw[eR]<;>rfl))
  ·have eR:=aFm eS c1;refine⟨?_,?_,?_,?_,?_,?_,?_,rfl,?_,?_,trivial⟩<;>(first|(rw[eS]<;>rfl)|(rw[eR]<;>rfl))
def lG (l:Z):cA:=(vU l (gL l)).1
def nD (l:Z):aV:=(oY l (gL l)).1
def oJ (l:Z):Int:=if (aC l (oY l (gL l)).2 3).1=0 then nR (nD l) else (Sc l (aC l (oY l (gL l)).2 3).2 (nD l)).1
def aFn {l:Z}(h:(aC l (oY l (gL l)).2 3).1=0):oJ l=nR (nD l):=by rw[oJ,if_pos h]
def aFo {l:Z}(h: ¬(aC l (oY l (gL l)).2 3).1=0):oJ l=(Sc l (aC l (oY l (gL l)).2 3).2 (nD l)).1:=by rw[oJ,if_neg h]
abbrev aHD(x:Z):AV:=.agg [.p none (.sl 155 3 ((lG x).z.a.map aP)),vI ((lG x).j.D),.p none (.sl 112 4 ((lG x).j.a.map aJ)),.p none (.sl 134 3 ((lG x).y.map aO)),.p none (.sl 138 4 ((lG x).x.map aT))]
abbrev aHM(x:Z):AV:=.agg [vI ((nD x).g),.p none (.sl 116 2 ((nD x).k.map bA))]
abbrev Kk (l:Z):AV × aGJ:=(.tup [aHD l,aHM l,vI (oJ l)],[])
abbrev Rh (l:Z):Prop:=Cn 14 [.one (.sl 5 1 (l.map bQ))] (Kk l).1 (Kk l).2
def aEk (l:Z)(hl:l.length<=1048576):Rh l:=by
 refine cq Tryz.func14 (bH (FD l) []<| bH (Bk l (gL l)) [(0,900)]<| bH (iA l ((oY l (gL l)).2) (3:Int)) [(0,900)]<| .br (.call (vI (nR ((oY l (gL l)).1))) []<| .fin []) (bH (Bj l ((aC l ((oY l (gL l)).2) (3:Int)).2) ((oY l (gL l)).1)) [(0,900)]<| .fin [])) (p:=Lx (l.map bQ)<| U0 l/\l.map bQ=l.map bQ/\Rg l (gL l)/\aGI l (gL l) (jR l ((oY l (gL l)).2) (3:Int)/\(3:Int)=3/\aGI l ((oY l (gL l)).2) (Br ((aC l ((oY l (gL l)).2) (3:Int)).1=0) (Bf ((oY l (gL l)).1)/\(vU l (gL l)).1.z.a.map aP=(lG l).z.a.map aP/\((vU l (gL l)).1.j.D)=((lG l).j.D)/\(vU l (gL l)).1.j.a.map aJ=(lG l).j.a.map aJ/\(vU l (gL l)).1.y.map aO=(lG l).y.map aO/\(vU l (gL l)).1.x.map aT=(lG l).x.map aT/\((oY l (gL l)).1.g)=((nD l).g)/\(oY l (gL l)).1.k.map bA=(nD l).k.map bA/\(nR ((oY l (gL l)).1))=(oJ l)/\True) (Rf l ((aC l ((oY l (gL l)).2) (3:Int)).2) ((oY l (gL l)).1)/\((oY l (gL l)).1.g)=((oY l (gL l)).1.g)/\(oY l (gL l)).1.k.map bA=(oY l (gL l)).1.k.map bA/\aGI l ((aC l ((oY l (gL l)).2) (3:Int)).2) ((vU l (gL l)).1.z.a.map aP=(lG l).z.a.map aP/\((vU l (gL l)).1.j.D)=((lG l).j.D)/\(vU l (gL l)).1.j.a.map aJ=(lG l).j.a.map aJ/\(vU l (gL l)).1.y.map aO=(lG l).y.map aO/\(vU l (gL l)).1.x.map aT=(lG l).x.map aT/\((oY l (gL l)).1.g)=((nD l).g)/\(oY l (gL l)).1.k.map bA=(nD l).k.map bA/\((Sc l ((aC l ((oY l (gL l)).2) (3:Int)).2) ((oY l (gL l)).1)).1)=(oJ l)/\True))))) ?_;refine lx fun n0=>?_;refine⟨aF2 l (by assumption),rfl,aEj l (gL l) (by assumption),rfl,rfl,rfl,pI l ((oY l (gL l)).2) (by assumption) (3:Int),rfl,rfl,rfl,rfl,dd (fun c0=>?_) fun c0=>?_⟩
 ·refine⟨NQ ((oY l (gL l)).1),?_,?_,?_,?_,?_,?_,?_,?_,trivial⟩<;>(first|rfl|(rw[aFn c0]<;>rfl))
 ·refine⟨aEi l ((aC l ((oY l (gL l)).2) (3:Int)).2) (by assumption) ((oY l (gL l)).1),rfl,rfl,rfl,rfl,rfl,?_,?_,?_,?_,?_,?_,?_,?_,trivial⟩<;>(first|rfl|(rw[aFo c0]<;>rfl))
def cY (n d:Int):Bool:=eZ d 1 2147483647&&eZ n (-2147483647) 2147483647&&decide (Int.gcd n d=1)
def D2 {n d:Int}(h:cY n d=true):1<=d/\d<=2147483647/\ -2147483647<=n/\n<=2147483647/\Int.gcd n d=1:=by
 simp only[cY,aBB,aFI] at h;obtain⟨⟨h1,h2⟩,h3⟩:=h;have:=eU h1;have:=eU h2;exact⟨aGR,aGR,aGR,aGR,h3⟩
def bS (n d:Int):Int × Int × Bool:=
 if d=0 then (0,0,false) else
 let n1:=if d<0 then -n else n
 let d1:=if d<0 then -d else d
 let g:Int:=Int.gcd n1 d1
 if cY (n1.tdiv g) (d1.tdiv g)=true then (n1.tdiv g,d1.tdiv g,true) else (0,0,false)
def PI (a b c d:Int):Int × Int × Bool:=if cY a b=true/\cY c d=true then bS (a*d+c*b) (b*d) else (0,0,false)
def MI (a b c d:Int):Int × Int × Bool:=if cY a b=true/\cY c d=true then bS (a*d - c*b) (b*d) else (0,0,false)
def XC (a b c d:Int):Int × Int × Bool:=if cY a b=true/\cY c d=true then bS (a*c) (b*d) else (0,0,false)
def MJ (a b c d:Int):Int × Int × Bool:=if cY a b=true/\cY c d=true then bS (a*d) (b*c) else (0,0,false)
def Z6 (a b c d:Int):Int:=if cY a b=true/\cY c d=true then (if a*d<c*b then -1 else if c*b<a*d then 1 else 0) else 0
def Ri (x y:Int):Int.gcd y (x.tmod y)=Int.gcd x y:=by
 rw[Int.gcd_comm x y];unfold Int.gcd;rw[Int.natAbs_tmod,Nat.gcd_comm y.natAbs (x.natAbs%y.natAbs),<-Nat.gcd_rec]
def aCZ (x:Int):(Int.gcd x 0:Int)=(if x< -x then -x else x):=by
 rw[Int.gcd_zero_right];split<;>omega
def FO {x y:Int}(h:y≠0):(x.tmod y).natAbs<y.natAbs:=by
 rw[Int.natAbs_tmod];exact Nat.mod_lt _ aGR
def Kl {x:Int}{n:Nat}(h:x.natAbs<n)(hn:n<=9223372036854775807): -9223372036854775807<=x/\x<=9223372036854775807:=aGR
def Z7 (n g:Int)(hn: -9223372036854775807<=n/\n<=9223372036854775807): -9223372036854775807<=n.tdiv g/\n.tdiv g<=9223372036854775807:=by
 have h1:(n.tdiv g).natAbs=n.natAbs/g.natAbs:=Int.natAbs_tdiv n g;have h2:n.natAbs/g.natAbs<=n.natAbs:=Nat.div_le_self _ _;omega
def lX {n d:Int}(h:d≠0):1<=(Int.gcd n d:Int):=by
 have:0<Int.gcd n d:=Int.gcd_pos_of_ne_zero_right n h;omega
def aEl {n d:Int}(h:d≠0):(Int.gcd n d:Int)<=d.natAbs:=by
 have:Int.gcd n d<=d.natAbs:=by
  unfold Int.gcd;exact Nat.gcd_le_right _ aGR
 omega
def mQ (n:Int):bS n 0=(0,0,false):=by simp[bS]
def Ci {n d g:Int}(h:0<d)(hg:g=Int.gcd n d):bS n d=if cY (n.tdiv g) (d.tdiv g)=true then (n.tdiv g,d.tdiv g,true) else (0,0,false):=by
 subst hg;unfold bS;rw[if_neg aGR];simp only[if_neg (show ¬d<0 by omega)]
def Cj {n d g:Int}(h:d<0)(hg:g=Int.gcd (-n) (-d)):bS n d=if cY ((-n).tdiv g) ((-d).tdiv g)=true then ((-n).tdiv g,(-d).tdiv g,true) else (0,0,false):=by
 subst hg;unfold bS;rw[if_neg aGR];simp only[if_pos h]
def gA {x y:Int}(hx: -2147483647<=x/\x<=2147483647)(hy: -2147483647<=y/\y<=2147483647): -4611686014132420609<=x*y/\x*y<=4611686014132420609:=by
 have h1:(x*y).natAbs=x.natAbs*y.natAbs:=Int.natAbs_mul x y;have h2:x.natAbs*y.natAbs<=2147483647*2147483647:=Nat.mul_le_mul aGR aGR;omega
def IL {a b c d:Int}(h:cY a b=false\/cY c d=false):PI a b c d=(0,0,false):=by rcases h with h | h<;>simp[PI,h]
def Bl {a b c d:Int}(h:cY a b=true)(h' :cY c d=true):PI a b c d=bS (a*d+c*b) (b*d):=by simp[PI,h,h']
def VK {a b c d:Int}(h:cY a b=false\/cY c d=false):MI a b c d=(0,0,false):=by rcases h with h | h<;>simp[MI,h]
def FP {a b c d:Int}(h:cY a b=true)(h' :cY c d=true):MI a b c d=bS (a*d - c*b) (b*d):=by simp[MI,h,h']
def IM {a b c d:Int}(h:cY a b=false\/cY c d=false):XC a b c d=(0,0,false):=by rcases h with h | h<;>simp[XC,h]
def vH {a b c d:Int}(h:cY a b=true)(h' :cY c d=true):XC a b c d=bS (a*c) (b*d):=by simp[XC,h,h']
def IP {a b c d:Int}(h:cY a b=false\/cY c d=false):MJ a b c d=(0,0,false):=by rcases h with h | h<;>simp[MJ,h]
def yE {a b c d:Int}(h:cY a b=true)(h' :cY c d=true):MJ a b c d=bS (a*d) (b*c):=by simp[MJ,h,h']
def XD {a b d:Int}:MJ a b 0 d=(0,0,false):=by unfold MJ;split<;>simp[bS]
def IQ {a b c d:Int}(h:cY a b=false\/cY c d=false):Z6 a b c d=0:=by rcases h with h | h<;>simp[Z6,h]
def vJ {a b c d:Int}(h:cY a b=true)(h' :cY c d=true):Z6 a b c d=if a*d<c*b then -1 else if c*b<a*d then 1 else 0:=by simp[Z6,h,h']
def aR (r:aB):Bool:=cY r.num r.den
def jI (q:Int × Int × Bool):aB × Bool:=(⟨q.1,q.2.1⟩,q.2.2)
def fH (a b:aB):aB × Bool:=jI (PI a.num a.den b.num b.den)
def kF (a b:aB):aB × Bool:=jI (MI a.num a.den b.num b.den)
def dC (a b:aB):aB × Bool:=jI (XC a.num a.den b.num b.den)
def aZ (a b:aB):aB × Bool:=jI (MJ a.num a.den b.num b.den)
def eB (a b:aB):Int:=Z6 a.num a.den b.num b.den
def bT {r:aB}(h:aR r=true):1<=r.den/\r.den<=2147483647/\ -2147483647<=r.num/\r.num<=2147483647/\Int.gcd r.num r.den=1:=D2 h
def iB {n d:Int}:Int.gcd (n.natAbs:Int) d=Int.gcd n d:=by simp[Int.gcd]
def rV {n d:Int}:cY n d=(decide (1<=d/\d<=2147483647)&&(decide (-2147483647<=n/\n<=2147483647)&&decide (((Int.gcd n d:Nat):Int)=1))):=by
 have e:decide (((Int.gcd n d:Nat):Int)=1)=decide (Int.gcd n d=1):=by congr 1;simp;omega
 rw[e];simp only[cY,Bool.and_assoc]
 congr 1
 ·simp[eZ,Bool.decide_and]
 congr 1
 simp[eZ,Bool.decide_and]
theorem Bm {k:Int}(hk:1<=k): ∀i:Nat,1<=k^i
 | 0=>by simp
 | i+1=>by
   rw[Int.pow_succ];have h1:=Bm hk i;have h2:1*1<=k^i*k:=Int.mul_le_mul h1 hk aGR aGR;omega
def NS {k:Int}(hk:1<=k){i j:Nat}(h:i<=j):k^i<=k^j:=by
 obtain⟨t,rfl⟩:=Nat.exists_eq_add_of_le h;rw[Int.pow_add];have h1:=Bm hk i;have h2:=Bm hk t;have h3:k^i*1<=k^i*k^t:=Int.mul_le_mul_of_nonneg_left h2 aGR;omega
def aFp {n:Nat}(h:n<=12):(2:Int)^n<=4096:=by
 have:=NS (k:=2) aGR h;exact Int.le_trans this (by decide)
def gU {i:Nat}(h:i<=12):bO ((1:Int)*2^i):=by
 have h1:=aFp h;have h2:=Bm (k:=2) aGR i;exact aGS
abbrev lR (n:Int)(a:Int)(c:Int):Prop:=Cn 55 [.one (.int .i64 n),.one (.int .i64 a),.one (.int .i64 c)] (vB (decide (a<=n/\n<=c))) []
def qU (n a c:Int):lR n a c:=by
 refine cq Tryz.func55 (.br (.fin []) (.fin [])) (p:=Br (a<=n) (((decide (n<=c))=(decide (a<=n/\n<=c)))/\True) (((false)=(decide (a<=n/\n<=c)))/\True)) ?_;apply dd<;>intro g10
 ·apply et1
  ·(simp[*];done)
 ·apply et1
  ·(simp[*];done)
abbrev gC (n:Int)(a:Int)(c:Int):Prop:=Cn 52 [.one (.int .i64 n),.one (.int .i64 a),.one (.int .i64 c)] (vB (decide (a<=n/\n<=c))) []
def kM (n a c:Int):gC n a c:=by
 refine cq Tryz.func52 (.br (.fin []) (.fin [])) (p:=Br (a<=n) (((decide (n<=c))=(decide (a<=n/\n<=c)))/\True) (((false)=(decide (a<=n/\n<=c)))/\True)) ?_;apply dd<;>intro g10
 ·apply et1
  ·(simp[*];done)
 ·apply et1
  ·(simp[*];done)
abbrev rW (a:Int)(c:Int):Prop:=Cn 56 [.one (.int .i64 a),.one (.int .i64 c)] (vI ((Int.gcd a c:Nat):Int)) []
def Bn (a c:Int)(ha: -9223372036854775807<=a/\a<=9223372036854775807)(hc: -9223372036854775807<=c/\c<=9223372036854775807):rW a c:=by
 refine cq Tryz.func56 (.loop (Int × Int) (Q2 Int Int) [0,1,5,6,7,8,9,10] [] (fun yy0=>[(0,vI yy0.1),(1,vI yy0.2)]) (fun yy0=>[]) (fun yy0=>(-9223372036854775807<=yy0.1/\yy0.1<=9223372036854775807)/\(-9223372036854775807<=yy0.2/\yy0.2<=9223372036854775807)/\Int.gcd yy0.1 yy0.2=Int.gcd a c) (fun yy0=>yy0.2.natAbs) (fun yy0=> .br (.back []) (.fin []))) (p:=(∃(x:Int) (y:Int),a=x/\c=y/\(-9223372036854775807<=x/\x<=9223372036854775807)/\(-9223372036854775807<=y/\y<=9223372036854775807)/\Int.gcd x y=Int.gcd a c)/\ ∀(x:Int) (y:Int),((-9223372036854775807<=x/\x<=9223372036854775807)/\(-9223372036854775807<=y/\y<=9223372036854775807)/\Int.gcd x y=Int.gcd a c)->Nb (y=0) (y≠0/\ ∃(x' :Int) (y' :Int),y=x' /\(Int.tmod x y)=y' /\((-9223372036854775807<=x' /\x' <=9223372036854775807)/\(-9223372036854775807<=y' /\y' <=9223372036854775807)/\Int.gcd x' y' =Int.gcd a c)/\y'.natAbs<y.natAbs) (bO (-x)/\(if x<(-x) then (-x) else x)=((Int.gcd a c:Nat):Int)/\True)) ?_;refine⟨⟨a,c,rfl,rfl,ha,hc,rfl⟩,fun x y ⟨hx,hy,hg⟩=>?_⟩;apply dn<;>intro c0
 ·refine⟨aGR,?_⟩;exact⟨y,Int.tmod x y,rfl,rfl,⟨hy,Kl (FO c0) aGR,by rw[Ri];exact hg⟩,FO c0⟩
 ·refine⟨aGS,?_,trivial⟩
  ·subst c0;rw[<-hg,aCZ]
abbrev zT (a:Int)(c:Int):Prop:=Cn 53 [.one (.int .i64 a),.one (.int .i64 c)] (vI ((Int.gcd a c:Nat):Int)) []
def Km (a c:Int)(ha:0<=a/\a<=9223372036854775807)(hc:0<=c/\c<=9223372036854775807):zT a c:=by
 refine cq Tryz.func53 (.loop (Int × Int) (Q2 Int Int) ([0,1]++rg 5 8) [] (fun yy0=>[(0,vI yy0.1),(1,vI yy0.2)]) (fun yy0=>[]) (fun yy0=>(0<=yy0.1/\yy0.1<=9223372036854775807)/\(0<=yy0.2/\yy0.2<=9223372036854775807)/\Int.gcd yy0.1 yy0.2=Int.gcd a c) (fun yy0=>yy0.2.natAbs) (fun yy0=> .br (.back []) (.fin []))) (p:=(∃(x:Int) (y:Int),a=x/\c=y/\(0<=x/\x<=9223372036854775807)/\(0<=y/\y<=9223372036854775807)/\Int.gcd x y=Int.gcd a c)/\ ∀(x:Int) (y:Int),((0<=x/\x<=9223372036854775807)/\(0<=y/\y<=9223372036854775807)/\Int.gcd x y=Int.gcd a c)->Nb (y=0) (y≠0/\ ∃(x' :Int) (y' :Int),y=x' /\(Int.tmod x y)=y' /\((0<=x' /\x' <=9223372036854775807)/\(0<=y' /\y' <=9223372036854775807)/\Int.gcd x' y' =Int.gcd a c)/\y'.natAbs<y.natAbs) (x=((Int.gcd a c:Nat):Int)/\True)) ?_;refine⟨⟨a,c,rfl,rfl,ha,hc,rfl⟩,fun x y ⟨hx,hy,hg⟩=>?_⟩;apply dn<;>intro c0
 ·refine⟨aGR,?_⟩;exact⟨y,Int.tmod x y,rfl,rfl,⟨hy,⟨Int.tmod_nonneg _ hx.1,(Kl (FO c0) aGR).2⟩,by rw[Ri];exact hg⟩,FO c0⟩
 ·apply et1
  ·subst c0;rw[<-hg,Int.gcd_zero_right];omega
abbrev zU (n:Int):Prop:=Cn 54 [.one (.int .i64 n)] (vI (n.natAbs:Int)) []
def Ko (n:Int)(hn: -9223372036854775807<=n/\n<=9223372036854775807):zU n:=by
 refine cq Tryz.func54 (.br (.fin []) (.fin [])) (p:=Br (n<0) (bO (-n)/\(-n)=(n.natAbs:Int)/\True) (n=(n.natAbs:Int)/\True)) ?_;apply dd<;>intro c0
 ·refine⟨aGS,?_,trivial⟩
  ·omega
 ·apply et1
  ·omega
abbrev aGv(x:aB):Ar:=.agg [.int .i64 x.num,.int .i64 x.den]
abbrev gQ (r:aB):Prop:=Cn 21 [aGv r] (vB (aR r)) []
def lH (r:aB):gQ r:=by
 refine cq Tryz.func21 (.call (vB (decide (1<=r.den/\r.den<=2147483647))) []<| .br (.call (vB (decide ((-2147483647:Int)<=r.num/\r.num<=2147483647))) []<| .lit<| .br (.call (vI ((Int.gcd r.num r.den:Nat):Int)) []<| .fin []) (.fin [])) (.fin [])) (p:=lR r.den (1:Int) (2147483647:Int)/\Br (1<=r.den/\r.den<=2147483647) (lR r.num (-2147483647:Int) (2147483647:Int)/\Br ((-2147483647:Int)<=r.num/\r.num<=2147483647) (rW r.num r.den/\(decide (((Int.gcd r.num r.den:Nat):Int)=1))=(aR r)/\True) ((false)=(aR r)/\True)) ((false)=(aR r)/\True)) ?_;refine⟨qU _ _ _,dd (fun g6=>?_) fun g6=>?_⟩
 ·refine⟨qU _ _ _,dd (fun g11=>?_) fun g11=>?_⟩
  ·refine⟨Bn _ _ aGR aGR,?_,trivial⟩
   ·(try rw[iB]);rw[aR,rV];simp[*]
  ·apply et1
   ·(try rw[iB]);rw[aR,rV];simp[*]
 ·apply et1
  ·(try rw[iB]);rw[aR,rV];simp[*]
abbrev gD (r:aB):Prop:=Cn 19 [aGv r] (vB (aR r)) []
def kN (r:aB):gD r:=by
 refine cq Tryz.func19 (.call (vB (decide (1<=r.den/\r.den<=2147483647))) []<| .br (.call (vB (decide ((-2147483647:Int)<=r.num/\r.num<=2147483647))) []<| .lit<| .br (.call (vI (r.num.natAbs:Int)) []<| .call (vI ((Int.gcd (r.num.natAbs:Int) r.den:Nat):Int)) []<| .fin []) (.fin [])) (.fin [])) (p:=gC r.den (1:Int) (2147483647:Int)/\Br (1<=r.den/\r.den<=2147483647) (gC r.num (-2147483647:Int) (2147483647:Int)/\Br ((-2147483647:Int)<=r.num/\r.num<=2147483647) (zU r.num/\zT (r.num.natAbs:Int) r.den/\(decide (((Int.gcd (r.num.natAbs:Int) r.den:Nat):Int)=1))=(aR r)/\True) ((false)=(aR r)/\True)) ((false)=(aR r)/\True)) ?_;refine⟨kM _ _ _,dd (fun g6=>?_) fun g6=>?_⟩
 ·refine⟨kM _ _ _,dd (fun g11=>?_) fun g11=>?_⟩
  ·refine⟨Ko _ aGR,Km _ _ aGR aGR,?_,trivial⟩
   ·(try rw[iB]);rw[aR,rV];simp[*]
  ·apply et1
   ·(try rw[iB]);rw[aR,rV];simp[*]
 ·apply et1
  ·(try rw[iB]);rw[aR,rV];simp[*]
def Z8 {n d:Int}:Int.gcd (-n) (-d)=Int.gcd n d:=by simp[Int.gcd]
def xG {n d:Int}(h:0<d):bS n d=if cY (n.tdiv (Int.gcd n d)) (d.tdiv (Int.gcd n d))=true then (n.tdiv (Int.gcd n d),d.tdiv (Int.gcd n d),true) else (0,0,false):=Ci h rfl
def Bo {n d:Int}(h:d<0):bS n d=if cY ((-n).tdiv (Int.gcd (-n) (-d))) ((-d).tdiv (Int.gcd (-n) (-d)))=true then ((-n).tdiv (Int.gcd (-n) (-d)),(-d).tdiv (Int.gcd (-n) (-d)),true) else (0,0,false):=Cj h rfl
def Rj {n:Int}:jI (bS n 0)=(⟨0,0⟩,false):=by rw[mQ];rfl
def PJ {n d:Int}(h:0<d)(c:aR ⟨n.tdiv (Int.gcd n d),d.tdiv (Int.gcd n d)⟩=true):jI (bS n d)=(⟨n.tdiv (Int.gcd n d),d.tdiv (Int.gcd n d)⟩,true):=by
 rw[xG h,if_pos (show cY _ _=true from c)];rfl
def Kp {n d:Int}(h:0<d)(c:aR ⟨n.tdiv (Int.gcd n d),d.tdiv (Int.gcd n d)⟩=false):jI (bS n d)=(⟨0,0⟩,false):=by
 rw[xG h,if_neg (by rw[show cY _ _=false from c];simp)];rfl
def PK {n d:Int}(h:d<0)(c:aR ⟨(-n).tdiv (Int.gcd (-n) (-d)),(-d).tdiv (Int.gcd (-n) (-d))⟩=true):jI (bS n d)=(⟨(-n).tdiv (Int.gcd (-n) (-d)),(-d).tdiv (Int.gcd (-n) (-d))⟩,true):=by
 rw[Bo h,if_pos (show cY _ _=true from c)];rfl
def Kq {n d:Int}(h:d<0)(c:aR ⟨(-n).tdiv (Int.gcd (-n) (-d)),(-d).tdiv (Int.gcd (-n) (-d))⟩=false):jI (bS n d)=(⟨0,0⟩,false):=by
 rw[Bo h,if_neg (by rw[show cY _ _=false from c];simp)];rfl
def mZ {n g:Int}(hn: -9223372036854775807<=n/\n<=9223372036854775807):bO (n.tdiv g):=by have:=Z7 n g hn;exact aGS
abbrev yF (n:Int)(d:Int):AV × aGJ:=(.tup [.agg [vI ((jI (bS n d)).1.num),vI ((jI (bS n d)).1.den)],vB ((jI (bS n d)).2)],[])
abbrev Ck (n:Int)(d:Int):Prop:=Cn 127 [.one (.int .i64 n),.one (.int .i64 d)] (yF n d).1 (yF n d).2
def PL (n d:Int)(hn: -9223372036854775807<=n/\n<=9223372036854775807)(hd: -9223372036854775807<=d/\d<=9223372036854775807):Ck n d:=by
 refine cq Tryz.func127 (.br (.fin []) (aGO<| .br (aGO<| .br (.fin []) (aGO<| .br (.fin []) (.br (.call (vI ((Int.gcd (-n) (-d):Nat):Int)) []<| .call (vB (aR (⟨Int.tdiv (-n) ((Int.gcd (-n) (-d):Nat):Int),Int.tdiv (-d) ((Int.gcd (-n) (-d):Nat):Int)⟩:aB))) []<| .br (.fin []) (.fin [])) (.call (vI ((Int.gcd n d:Nat):Int)) []<| .call (vB (aR (⟨Int.tdiv n ((Int.gcd n d:Nat):Int),Int.tdiv d ((Int.gcd n d:Nat):Int)⟩:aB))) []<| .br (.fin []) (.fin []))))) (aGN<| aGO<| .br (.fin []) (.br (.call (vI ((Int.gcd (-n) (-d):Nat):Int)) []<| .call (vB (aR (⟨Int.tdiv (-n) ((Int.gcd (-n) (-d):Nat):Int),Int.tdiv (-d) ((Int.gcd (-n) (-d):Nat):Int)⟩:aB))) []<| .br (.fin []) (.fin [])) (.call (vI ((Int.gcd n d:Nat):Int)) []<| .call (vB (aR (⟨Int.tdiv n ((Int.gcd n d:Nat):Int),Int.tdiv d ((Int.gcd n d:Nat):Int)⟩:aB))) []<| .br (.fin []) (.fin [])))))) (p:=Br (d=0) (0=((jI (bS n d)).1.num)/\0=((jI (bS n d)).1.den)/\(false)=((jI (bS n d)).2)/\True) (bO (-n)/\Br (n=(-n)) (Nb (n=0) (0=((jI (bS n d)).1.num)/\0=((jI (bS n d)).1.den)/\(false)=((jI (bS n d)).2)/\True) (bO (-d)/\Br (d=(-d)) (0=((jI (bS n d)).1.num)/\0=((jI (bS n d)).1.den)/\(false)=((jI (bS n d)).2)/\True) (Br (d<0) (bO (-n)/\bO (-d)/\rW (-n) (-d)/\((Int.gcd (-n) (-d):Nat):Int)≠0/\bO (Int.tdiv (-n) ((Int.gcd (-n) (-d):Nat):Int))/\((Int.gcd (-n) (-d):Nat):Int)≠0/\bO (Int.tdiv (-d) ((Int.gcd (-n) (-d):Nat):Int))/\gQ (⟨Int.tdiv (-n) ((Int.gcd (-n) (-d):Nat):Int),Int.tdiv (-d) ((Int.gcd (-n) (-d):Nat):Int)⟩:aB)/\Nr (aR (⟨Int.tdiv (-n) ((Int.gcd (-n) (-d):Nat):Int),Int.tdiv (-d) ((Int.gcd (-n) (-d):Nat):Int)⟩:aB)) (0=((jI (bS n d)).1.num)/\0=((jI (bS n d)).1.den)/\(false)=((jI (bS n d)).2)/\True) ((Int.tdiv (-n) ((Int.gcd (-n) (-d):Nat):Int))=((jI (bS n d)).1.num)/\(Int.tdiv (-d) ((Int.gcd (-n) (-d):Nat):Int))=((jI (bS n d)).1.den)/\(true)=((jI (bS n d)).2)/\True)) (rW n d/\((Int.gcd n d:Nat):Int)≠0/\bO (Int.tdiv n ((Int.gcd n d:Nat):Int))/\((Int.gcd n d:Nat):Int)≠0/\bO (Int.tdiv d ((Int.gcd n d:Nat):Int))/\gQ (⟨Int.tdiv n ((Int.gcd n d:Nat):Int),Int.tdiv d ((Int.gcd n d:Nat):Int)⟩:aB)/\Nr (aR (⟨Int.tdiv n ((Int.gcd n d:Nat):Int),Int.tdiv d ((Int.gcd n d:Nat):Int)⟩:aB)) (0=((jI (bS n d)).1.num)/\0=((jI (bS n d)).1.den)/\(false)=((jI (bS n d)).2)/\True) ((Int.tdiv n ((Int.gcd n d:Nat):Int))=((jI (bS n d)).1.num)/\(Int.tdiv d ((Int.gcd n d:Nat):Int))=((jI (bS n d)).1.den)/\(true)=((jI (bS n d)).2)/\True))))) (bO (-d)/\Br (d=(-d)) (0=((jI (bS n d)).1.num)/\0=((jI (bS n d)).1.den)/\(false)=((jI (bS n d)).2)/\True) (Br (d<0) (bO (-n)/\bO (-d)/\rW (-n) (-d)/\((Int.gcd (-n) (-d):Nat):Int)≠0/\bO (Int.tdiv (-n) ((Int.gcd (-n) (-d):Nat):Int))/\((Int.gcd (-n) (-d):Nat):Int)≠0/\bO (Int.tdiv (-d) ((Int.gcd (-n) (-d):Nat):Int))/\gQ (⟨Int.tdiv (-n) ((Int.gcd (-n) (-d):Nat):Int),Int.tdiv (-d) ((Int.gcd (-n) (-d):Nat):Int)⟩:aB)/\Nr (aR (⟨Int.tdiv (-n) ((Int.gcd (-n) (-d):Nat):Int),Int.tdiv (-d) ((Int.gcd (-n) (-d):Nat):Int)⟩:aB)) (0=((jI (bS n d)).1.num)/\0=((jI (bS n d)).1.den)/\(false)=((jI (bS n d)).2)/\True) ((Int.tdiv (-n) ((Int.gcd (-n) (-d):Nat):Int))=((jI (bS n d)).1.num)/\(Int.tdiv (-d) ((Int.gcd (-n) (-d):Nat):Int))=((jI (bS n d)).1.den)/\(true)=((jI (bS n d)).2)/\True)) (rW n d/\((Int.gcd n d:Nat):Int)≠0/\bO (Int.tdiv n ((Int.gcd n d:Nat):Int))/\((Int.gcd n d:Nat):Int)≠0/\bO (Int.tdiv d ((Int.gcd n d:Nat):Int))/\gQ (⟨Int.tdiv n ((Int.gcd n d:Nat):Int),Int.tdiv d ((Int.gcd n d:Nat):Int)⟩:aB)/\Nr (aR (⟨Int.tdiv n ((Int.gcd n d:Nat):Int),Int.tdiv d ((Int.gcd n d:Nat):Int)⟩:aB)) (0=((jI (bS n d)).1.num)/\0=((jI (bS n d)).1.den)/\(false)=((jI (bS n d)).2)/\True) ((Int.tdiv n ((Int.gcd n d:Nat):Int))=((jI (bS n d)).1.num)/\(Int.tdiv d ((Int.gcd n d:Nat):Int))=((jI (bS n d)).1.den)/\(true)=((jI (bS n d)).2)/\True)))))) ?_;apply dd<;>intro g10
 ·apply et3<;>((subst g10;rw[Rj]<;>rfl))
 ·refine⟨by exact aGS,dd (fun g15=>?_) fun g15=>?_⟩
  ·apply dn<;>intro g20
   ·apply et3<;>((exfalso;omega))
   ·refine⟨by exact aGS,dd (fun c0=>?_) fun c0=>?_⟩
    ·apply et3<;>((exfalso;omega))
    ·apply dd<;>intro c1
     ·have q1:((Int.gcd (-n) (-d):Nat):Int)≠0:=by have:=lX (n:= -n) (d:= -d) aGR;omega
      have q2:((Int.gcd ((Int.natAbs (-n):Nat):Int) (-d):Nat):Int)≠0:=by rw[iB];have:=lX (n:= -n) (d:= -d) aGR;omega
      refine⟨by exact aGS,by exact aGS,Bn _ _ aGR aGR,aGR,by exact mZ aGR,aGR,by exact mZ aGR,lH (⟨Int.tdiv (-n) ((Int.gcd (-n) (-d):Nat):Int),Int.tdiv (-d) ((Int.gcd (-n) (-d):Nat):Int)⟩:aB),dm (fun c2=>?_) fun c2=>?_⟩
      ·apply et3<;>((rw[Kq aGR c2]<;>rfl))
      ·apply et3<;>((rw[PK aGR c2]<;>rfl))
     ·have q1:((Int.gcd n d:Nat):Int)≠0:=by have:=lX (n:=n) (d:=d) aGR;omega
      have q2:((Int.gcd ((Int.natAbs n:Nat):Int) d:Nat):Int)≠0:=by rw[iB];have:=lX (n:=n) (d:=d) aGR;omega
      refine⟨Bn _ _ aGR aGR,aGR,by exact mZ hn,aGR,by exact mZ aGR,lH (⟨Int.tdiv n ((Int.gcd n d:Nat):Int),Int.tdiv d ((Int.gcd n d:Nat):Int)⟩:aB),dm (fun c2=>?_) fun c2=>?_⟩
      ·apply et3<;>((rw[Kp aGR c2]<;>rfl))
      ·apply et3<;>((rw[PJ aGR c2]<;>rfl))
  ·refine⟨by exact aGS,dd (fun c0=>?_) fun c0=>?_⟩
   ·apply et3<;>((exfalso;omega))
   ·apply dd<;>intro c1
    ·have q1:((Int.gcd (-n) (-d):Nat):Int)≠0:=by have:=lX (n:= -n) (d:= -d) aGR;omega
     have q2:((Int.gcd ((Int.natAbs (-n):Nat):Int) (-d):Nat):Int)≠0:=by rw[iB];have:=lX (n:= -n) (d:= -d) aGR;omega
     refine⟨by exact aGS,by exact aGS,Bn _ _ aGR aGR,aGR,by exact mZ aGR,aGR,by exact mZ aGR,lH (⟨Int.tdiv (-n) ((Int.gcd (-n) (-d):Nat):Int),Int.tdiv (-d) ((Int.gcd (-n) (-d):Nat):Int)⟩:aB),dm (fun c2=>?_) fun c2=>?_⟩
     ·apply et3<;>((rw[Kq aGR c2]<;>rfl))
     ·apply et3<;>((rw[PK aGR c2]<;>rfl))
    ·have q1:((Int.gcd n d:Nat):Int)≠0:=by have:=lX (n:=n) (d:=d) aGR;omega
     have q2:((Int.gcd ((Int.natAbs n:Nat):Int) d:Nat):Int)≠0:=by rw[iB];have:=lX (n:=n) (d:=d) aGR;omega
     refine⟨Bn _ _ aGR aGR,aGR,by exact mZ hn,aGR,by exact mZ aGR,lH (⟨Int.tdiv n ((Int.gcd n d:Nat):Int),Int.tdiv d ((Int.gcd n d:Nat):Int)⟩:aB),dm (fun c2=>?_) fun c2=>?_⟩
     ·apply et3<;>((rw[Kp aGR c2]<;>rfl))
     ·apply et3<;>((rw[PJ aGR c2]<;>rfl))
abbrev uE (n:Int)(d:Int):AV × aGJ:=(.tup [.agg [vI ((jI (bS n d)).1.num),vI ((jI (bS n d)).1.den)],vB ((jI (bS n d)).2)],[])
abbrev yG (n:Int)(d:Int):Prop:=Cn 20 [.one (.int .i64 n),.one (.int .i64 d)] (uE n d).1 (uE n d).2
def IR (n d:Int)(hn: -9223372036854775807<=n/\n<=9223372036854775807)(hd: -9223372036854775807<=d/\d<=9223372036854775807):yG n d:=by
 refine cq Tryz.func20 (.br (.fin []) (aGQ<| .br (.fin []) (aGQ<| .br (.fin []) (.br (.call (vI (((-n).natAbs:Nat):Int)) []<| .call (vI ((Int.gcd (((-n).natAbs:Nat):Int) (-d):Nat):Int)) []<| .call (vB (aR (⟨Int.tdiv (-n) ((Int.gcd (((-n).natAbs:Nat):Int) (-d):Nat):Int),Int.tdiv (-d) ((Int.gcd (((-n).natAbs:Nat):Int) (-d):Nat):Int)⟩:aB))) []<| .br (.fin []) (.fin [])) (.call (vI (n.natAbs:Int)) []<| .call (vI ((Int.gcd (n.natAbs:Int) d:Nat):Int)) []<| .call (vB (aR (⟨Int.tdiv n ((Int.gcd (n.natAbs:Int) d:Nat):Int),Int.tdiv d ((Int.gcd (n.natAbs:Int) d:Nat):Int)⟩:aB))) []<| .br (.fin []) (.fin [])))))) (p:=Br (d=0) (0=((jI (bS n d)).1.num)/\0=((jI (bS n d)).1.den)/\(false)=((jI (bS n d)).2)/\True) (Br (n<(-9223372036854775807:Int)) (0=((jI (bS n d)).1.num)/\0=((jI (bS n d)).1.den)/\(false)=((jI (bS n d)).2)/\True) (Br (d<(-9223372036854775807:Int)) (0=((jI (bS n d)).1.num)/\0=((jI (bS n d)).1.den)/\(false)=((jI (bS n d)).2)/\True) (Br (d<0) (bO (-n)/\bO (-d)/\zU (-n)/\zT (((-n).natAbs:Nat):Int) (-d)/\((Int.gcd (((-n).natAbs:Nat):Int) (-d):Nat):Int)≠0/\bO (Int.tdiv (-n) ((Int.gcd (((-n).natAbs:Nat):Int) (-d):Nat):Int))/\((Int.gcd (((-n).natAbs:Nat):Int) (-d):Nat):Int)≠0/\bO (Int.tdiv (-d) ((Int.gcd (((-n).natAbs:Nat):Int) (-d):Nat):Int))/\gD (⟨Int.tdiv (-n) ((Int.gcd (((-n).natAbs:Nat):Int) (-d):Nat):Int),Int.tdiv (-d) ((Int.gcd (((-n).natAbs:Nat):Int) (-d):Nat):Int)⟩:aB)/\Nr (aR (⟨Int.tdiv (-n) ((Int.gcd (((-n).natAbs:Nat):Int) (-d):Nat):Int),Int.tdiv (-d) ((Int.gcd (((-n).natAbs:Nat):Int) (-d):Nat):Int)⟩:aB)) (0=((jI (bS n d)).1.num)/\0=((jI (bS n d)).1.den)/\(false)=((jI (bS n d)).2)/\True) ((Int.tdiv (-n) ((Int.gcd (((-n).natAbs:Nat):Int) (-d):Nat):Int))=((jI (bS n d)).1.num)/\(Int.tdiv (-d) ((Int.gcd (((-n).natAbs:Nat):Int) (-d):Nat):Int))=((jI (bS n d)).1.den)/\(true)=((jI (bS n d)).2)/\True)) (zU n/\zT (n.natAbs:Int) d/\((Int.gcd (n.natAbs:Int) d:Nat):Int)≠0/\bO (Int.tdiv n ((Int.gcd (n.natAbs:Int) d:Nat):Int))/\((Int.gcd (n.natAbs:Int) d:Nat):Int)≠0/\bO (Int.tdiv d ((Int.gcd (n.natAbs:Int) d:Nat):Int))/\gD (⟨Int.tdiv n ((Int.gcd (n.natAbs:Int) d:Nat):Int),Int.tdiv d ((Int.gcd (n.natAbs:Int) d:Nat):Int)⟩:aB)/\Nr (aR (⟨Int.tdiv n ((Int.gcd (n.natAbs:Int) d:Nat):Int),Int.tdiv d ((Int.gcd (n.natAbs:Int) d:Nat):Int)⟩:aB)) (0=((jI (bS n d)).1.num)/\0=((jI (bS n d)).1.den)/\(false)=((jI (bS n d)).2)/\True) ((Int.tdiv n ((Int.gcd (n.natAbs:Int) d:Nat):Int))=((jI (bS n d)).1.num)/\(Int.tdiv d ((Int.gcd (n.natAbs:Int) d:Nat):Int))=((jI (bS n d)).1.den)/\(true)=((jI (bS n d)).2)/\True)))))) ?_;apply dd<;>intro g10
 ·apply et3<;>((try simp only[iB] at*);(subst g10;rw[Rj]<;>rfl))
 ·apply dd<;>intro g14
  ·apply et3<;>((try simp only[iB] at*);(exfalso;omega))
  ·apply dd<;>intro c0
   ·apply et3<;>((try simp only[iB] at*);(exfalso;omega))
   ·apply dd<;>intro c1
    ·have q1:((Int.gcd (-n) (-d):Nat):Int)≠0:=by have:=lX (n:= -n) (d:= -d) aGR;omega
     have q2:((Int.gcd ((Int.natAbs (-n):Nat):Int) (-d):Nat):Int)≠0:=by rw[iB];have:=lX (n:= -n) (d:= -d) aGR;omega
     refine⟨by exact aGS,by exact aGS,Ko _ aGR,Km _ _ aGR aGR,aGR,by exact mZ aGR,aGR,by exact mZ aGR,kN (⟨Int.tdiv (-n) ((Int.gcd (((-n).natAbs:Nat):Int) (-d):Nat):Int),Int.tdiv (-d) ((Int.gcd (((-n).natAbs:Nat):Int) (-d):Nat):Int)⟩:aB),dm (fun c2=>?_) fun c2=>?_⟩
     ·apply et3<;>((try simp only[iB] at*);(rw[Kq aGR c2]<;>rfl))
     ·apply et3<;>((try simp only[iB] at*);(rw[PK aGR c2]<;>rfl))
    ·have q1:((Int.gcd n d:Nat):Int)≠0:=by have:=lX (n:=n) (d:=d) aGR;omega
     have q2:((Int.gcd ((Int.natAbs n:Nat):Int) d:Nat):Int)≠0:=by rw[iB];have:=lX (n:=n) (d:=d) aGR;omega
     refine⟨Ko _ aGR,Km _ _ aGR aGR,aGR,by exact mZ hn,aGR,by exact mZ aGR,kN (⟨Int.tdiv n ((Int.gcd (n.natAbs:Int) d:Nat):Int),Int.tdiv d ((Int.gcd (n.natAbs:Int) d:Nat):Int)⟩:aB),dm (fun c2=>?_) fun c2=>?_⟩
     ·apply et3<;>((try simp only[iB] at*);(rw[Kp aGR c2]<;>rfl))
     ·apply et3<;>((try simp only[iB] at*);(rw[PJ aGR c2]<;>rfl))
abbrev zV (a:aB)(b:aB):AV × aGJ:=(.tup [.agg [vI ((fH a b).1.num),vI ((fH a b).1.den)],vB ((fH a b).2)],[])
abbrev D3 (a:aB)(b:aB):Prop:=Cn 100 [aGv a,aGv b] (zV a b).1 (zV a b).2
def Rk (a b:aB):D3 a b:=by
 refine cq Tryz.func100 (.call (vB (aR a)) []<| .br (.fin []) (.call (vB (aR b)) []<| aGQ<| .br (.fin []) (bN (yF ((a.num*b.den)+(b.num*a.den)) (a.den*b.den))<| .fin []))) (p:=gQ a/\Nr (aR a) (0=((fH a b).1.num)/\0=((fH a b).1.den)/\(false)=((fH a b).2)/\True) (gQ b/\Nr (aR b) (0=((fH a b).1.num)/\0=((fH a b).1.den)/\(false)=((fH a b).2)/\True) (bO (a.num*b.den)/\bO (b.num*a.den)/\bO ((a.num*b.den)+(b.num*a.den))/\bO (a.den*b.den)/\Ck ((a.num*b.den)+(b.num*a.den)) (a.den*b.den)/\(((jI (bS ((a.num*b.den)+(b.num*a.den)) (a.den*b.den))).1).num)=((fH a b).1.num)/\(((jI (bS ((a.num*b.den)+(b.num*a.den)) (a.den*b.den))).1).den)=((fH a b).1.den)/\((jI (bS ((a.num*b.den)+(b.num*a.den)) (a.den*b.den))).2)=((fH a b).2)/\True))) ?_;refine⟨lH a,dm (fun g9=>?_) fun g9=>?_⟩
 ·apply et3<;>((rw[fH,IL (.inl g9)];rfl))
 ·refine⟨lH b,dm (fun c0=>?_) fun c0=>?_⟩
  ·apply et3<;>((rw[fH,IL (.inr c0)];rfl))
  ·have q1:=bT g9;have q2:=bT c0;have m1:=gA (x:=a.num) (y:=b.den) aGS aGS;have m2:=gA (x:=b.num) (y:=a.den) aGS aGS;have m3:=gA (x:=a.den) (y:=b.den) aGS aGS;have m4:=gA (x:=a.num) (y:=b.num) aGS aGS;have m5:=gA (x:=a.den) (y:=b.num) aGS aGS;refine⟨aGS,aGS,aGS,aGS,PL _ _ aGR aGR,?_,?_,?_,trivial⟩<;>((rw[fH,Bl g9 c0];done))
abbrev zW (a:aB)(b:aB):AV × aGJ:=(.tup [.agg [vI ((dC a b).1.num),vI ((dC a b).1.den)],vB ((dC a b).2)],[])
abbrev D4 (a:aB)(b:aB):Prop:=Cn 99 [aGv a,aGv b] (zW a b).1 (zW a b).2
def Rm (a b:aB):D4 a b:=by
 refine cq Tryz.func99 (.call (vB (aR a)) []<| .br (.fin []) (.call (vB (aR b)) []<| aGQ<| .br (.fin []) (bN (yF (a.num*b.num) (a.den*b.den))<| .fin []))) (p:=gQ a/\Nr (aR a) (0=((dC a b).1.num)/\0=((dC a b).1.den)/\(false)=((dC a b).2)/\True) (gQ b/\Nr (aR b) (0=((dC a b).1.num)/\0=((dC a b).1.den)/\(false)=((dC a b).2)/\True) (bO (a.num*b.num)/\bO (a.den*b.den)/\Ck (a.num*b.num) (a.den*b.den)/\(((jI (bS (a.num*b.num) (a.den*b.den))).1).num)=((dC a b).1.num)/\(((jI (bS (a.num*b.num) (a.den*b.den))).1).den)=((dC a b).1.den)/\((jI (bS (a.num*b.num) (a.den*b.den))).2)=((dC a b).2)/\True))) ?_;refine⟨lH a,dm (fun g9=>?_) fun g9=>?_⟩
 ·apply et3<;>((rw[dC,IM (.inl g9)];rfl))
 ·refine⟨lH b,dm (fun c0=>?_) fun c0=>?_⟩
  ·apply et3<;>((rw[dC,IM (.inr c0)];rfl))
  ·have q1:=bT g9;have q2:=bT c0;have m1:=gA (x:=a.num) (y:=b.den) aGS aGS;have m2:=gA (x:=b.num) (y:=a.den) aGS aGS;have m3:=gA (x:=a.den) (y:=b.den) aGS aGS;have m4:=gA (x:=a.num) (y:=b.num) aGS aGS;have m5:=gA (x:=a.den) (y:=b.num) aGS aGS;refine⟨aGS,aGS,PL _ _ aGR aGR,?_,?_,?_,trivial⟩<;>((rw[dC,vH g9 c0];done))
abbrev zX (a:aB)(b:aB):AV × aGJ:=(.tup [.agg [vI ((aZ a b).1.num),vI ((aZ a b).1.den)],vB ((aZ a b).2)],[])
abbrev D5 (a:aB)(b:aB):Prop:=Cn 82 [aGv a,aGv b] (zX a b).1 (zX a b).2
def Rn (a b:aB):D5 a b:=by
 refine cq Tryz.func82 (.call (vB (aR a)) []<| .br (.fin []) (.call (vB (aR b)) []<| aGQ<| .br (.fin []) (bN (yF (a.num*b.den) (a.den*b.num))<| .fin []))) (p:=gQ a/\Nr (aR a) (0=((aZ a b).1.num)/\0=((aZ a b).1.den)/\(false)=((aZ a b).2)/\True) (gQ b/\Nr (aR b) (0=((aZ a b).1.num)/\0=((aZ a b).1.den)/\(false)=((aZ a b).2)/\True) (bO (a.num*b.den)/\bO (a.den*b.num)/\Ck (a.num*b.den) (a.den*b.num)/\(((jI (bS (a.num*b.den) (a.den*b.num))).1).num)=((aZ a b).1.num)/\(((jI (bS (a.num*b.den) (a.den*b.num))).1).den)=((aZ a b).1.den)/\((jI (bS (a.num*b.den) (a.den*b.num))).2)=((aZ a b).2)/\True))) ?_;refine⟨lH a,dm (fun g9=>?_) fun g9=>?_⟩
 ·apply et3<;>((rw[aZ,IP (.inl g9)];rfl))
 ·refine⟨lH b,dm (fun c0=>?_) fun c0=>?_⟩
  ·apply et3<;>((rw[aZ,IP (.inr c0)];rfl))
  ·have q1:=bT g9;have q2:=bT c0;have m1:=gA (x:=a.num) (y:=b.den) aGS aGS;have m2:=gA (x:=b.num) (y:=a.den) aGS aGS;have m3:=gA (x:=a.den) (y:=b.den) aGS aGS;have m4:=gA (x:=a.num) (y:=b.num) aGS aGS;have m5:=gA (x:=a.den) (y:=b.num) aGS aGS;refine⟨aGS,aGS,PL _ _ aGR aGR,?_,?_,?_,trivial⟩<;>((rw[aZ,yE g9 c0];done))
abbrev zY (a:aB)(b:aB):AV × aGJ:=(.tup [.agg [vI ((fH a b).1.num),vI ((fH a b).1.den)],vB ((fH a b).2)],[])
abbrev D6 (a:aB)(b:aB):Prop:=Cn 98 [aGv a,aGv b] (zY a b).1 (zY a b).2
def Ro (a b:aB):D6 a b:=by
 refine cq Tryz.func98 (.call (vB (aR a)) []<| .br (.fin []) (.call (vB (aR b)) []<| aGQ<| .br (.fin []) (bN (uE ((a.num*b.den)+(b.num*a.den)) (a.den*b.den))<| .fin []))) (p:=gD a/\Nr (aR a) (0=((fH a b).1.num)/\0=((fH a b).1.den)/\(false)=((fH a b).2)/\True) (gD b/\Nr (aR b) (0=((fH a b).1.num)/\0=((fH a b).1.den)/\(false)=((fH a b).2)/\True) (bO (a.num*b.den)/\bO (b.num*a.den)/\bO ((a.num*b.den)+(b.num*a.den))/\bO (a.den*b.den)/\yG ((a.num*b.den)+(b.num*a.den)) (a.den*b.den)/\(((jI (bS ((a.num*b.den)+(b.num*a.den)) (a.den*b.den))).1).num)=((fH a b).1.num)/\(((jI (bS ((a.num*b.den)+(b.num*a.den)) (a.den*b.den))).1).den)=((fH a b).1.den)/\((jI (bS ((a.num*b.den)+(b.num*a.den)) (a.den*b.den))).2)=((fH a b).2)/\True))) ?_;refine⟨kN a,dm (fun g11=>?_) fun g11=>?_⟩
 ·apply et3<;>((rw[fH,IL (.inl g11)];rfl))
 ·refine⟨kN b,dm (fun c0=>?_) fun c0=>?_⟩
  ·apply et3<;>((rw[fH,IL (.inr c0)];rfl))
  ·have q1:=bT g11;have q2:=bT c0;have m1:=gA (x:=a.num) (y:=b.den) aGS aGS;have m2:=gA (x:=b.num) (y:=a.den) aGS aGS;have m3:=gA (x:=a.den) (y:=b.den) aGS aGS;have m4:=gA (x:=a.num) (y:=b.num) aGS aGS;have m5:=gA (x:=a.den) (y:=b.num) aGS aGS;refine⟨aGS,aGS,aGS,aGS,IR _ _ aGR aGR,?_,?_,?_,trivial⟩<;>((rw[fH,Bl g11 c0];done))
abbrev vK (a:aB)(b:aB):AV × aGJ:=(.tup [.agg [vI ((dC a b).1.num),vI ((dC a b).1.den)],vB ((dC a b).2)],[])
abbrev zZ (a:aB)(b:aB):Prop:=Cn 97 [aGv a,aGv b] (vK a b).1 (vK a b).2
def Ks (a b:aB):zZ a b:=by
 refine cq Tryz.func97 (.call (vB (aR a)) []<| .br (.fin []) (.call (vB (aR b)) []<| aGQ<| .br (.fin []) (bN (uE (a.num*b.num) (a.den*b.den))<| .fin []))) (p:=gD a/\Nr (aR a) (0=((dC a b).1.num)/\0=((dC a b).1.den)/\(false)=((dC a b).2)/\True) (gD b/\Nr (aR b) (0=((dC a b).1.num)/\0=((dC a b).1.den)/\(false)=((dC a b).2)/\True) (bO (a.num*b.num)/\bO (a.den*b.den)/\yG (a.num*b.num) (a.den*b.den)/\(((jI (bS (a.num*b.num) (a.den*b.den))).1).num)=((dC a b).1.num)/\(((jI (bS (a.num*b.num) (a.den*b.den))).1).den)=((dC a b).1.den)/\((jI (bS (a.num*b.num) (a.den*b.den))).2)=((dC a b).2)/\True))) ?_;refine⟨kN a,dm (fun g11=>?_) fun g11=>?_⟩
 ·apply et3<;>((rw[dC,IM (.inl g11)];rfl))
 ·refine⟨kN b,dm (fun c0=>?_) fun c0=>?_⟩
  ·apply et3<;>((rw[dC,IM (.inr c0)];rfl))
  ·have q1:=bT g11;have q2:=bT c0;have m1:=gA (x:=a.num) (y:=b.den) aGS aGS;have m2:=gA (x:=b.num) (y:=a.den) aGS aGS;have m3:=gA (x:=a.den) (y:=b.den) aGS aGS;have m4:=gA (x:=a.num) (y:=b.num) aGS aGS;have m5:=gA (x:=a.den) (y:=b.num) aGS aGS;refine⟨aGS,aGS,IR _ _ aGR aGR,?_,?_,?_,trivial⟩<;>((rw[dC,vH g11 c0];done))
abbrev rX (a:aB)(b:aB):AV × aGJ:=(.tup [.agg [vI ((aZ a b).1.num),vI ((aZ a b).1.den)],vB ((aZ a b).2)],[])
abbrev vL (a:aB)(b:aB):Prop:=Cn 94 [aGv a,aGv b] (rX a b).1 (rX a b).2
def FQ (a b:aB):vL a b:=by
 refine cq Tryz.func94 (.call (vB (aR a)) []<| .br (.fin []) (.call (vB (aR b)) []<| aGQ<| .br (.fin []) (aGP<| .br (.fin []) (bN (uE (a.num*b.den) (a.den*b.num))<| .fin [])))) (p:=gD a/\Nr (aR a) (0=((aZ a b).1.num)/\0=((aZ a b).1.den)/\(false)=((aZ a b).2)/\True) (gD b/\Nr (aR b) (0=((aZ a b).1.num)/\0=((aZ a b).1.den)/\(false)=((aZ a b).2)/\True) (Br (b.num=0) (0=((aZ a b).1.num)/\0=((aZ a b).1.den)/\(false)=((aZ a b).2)/\True) (bO (a.num*b.den)/\bO (a.den*b.num)/\yG (a.num*b.den) (a.den*b.num)/\(((jI (bS (a.num*b.den) (a.den*b.num))).1).num)=((aZ a b).1.num)/\(((jI (bS (a.num*b.den) (a.den*b.num))).1).den)=((aZ a b).1.den)/\((jI (bS (a.num*b.den) (a.den*b.num))).2)=((aZ a b).2)/\True)))) ?_;refine⟨kN a,dm (fun g11=>?_) fun g11=>?_⟩
 ·apply et3<;>((rw[aZ,IP (.inl g11)];rfl))
 ·refine⟨kN b,dm (fun g16=>?_) fun g16=>?_⟩
  ·apply et3<;>((rw[aZ,IP (.inr g16)];rfl))
  ·apply dd<;>intro c0
   ·apply et3<;>((simp[aZ,XD,jI, *];done))
   ·have q1:=bT g11;have q2:=bT g16;have m1:=gA (x:=a.num) (y:=b.den) aGS aGS;have m2:=gA (x:=b.num) (y:=a.den) aGS aGS;have m3:=gA (x:=a.den) (y:=b.den) aGS aGS;have m4:=gA (x:=a.num) (y:=b.num) aGS aGS;have m5:=gA (x:=a.den) (y:=b.num) aGS aGS;refine⟨aGS,aGS,IR _ _ aGR aGR,?_,?_,?_,trivial⟩<;>((rw[aZ,yE g11 g16];done))
def rY {n d:Int}:cY (-n) d=cY n d:=by
 have e:Int.gcd (-n) d=Int.gcd n d:=by simp[Int.gcd]
 simp only[cY,e]
 congr 2
 simp only[eZ];rw[Bool.eq_iff_iff];simp;omega
def Z9 {a b c d:Int}:PI a b (-c) d=MI a b c d:=by
 unfold PI MI;rw[rY,Int.neg_mul,Int.sub_eq_add_neg]
abbrev vM (a:aB)(b:aB):AV × aGJ:=(.tup [.agg [vI ((kF a b).1.num),vI ((kF a b).1.den)],vB ((kF a b).2)],[])
abbrev AA (a:aB)(b:aB):Prop:=Cn 9 [aGv a,aGv b] (vM a b).1 (vM a b).2
def Kt (a b:aB):AA a b:=by
 refine cq Tryz.func9 (.call (vB (aR a)) []<| .br (.fin []) (.call (vB (aR b)) []<| aGQ<| .br (.fin []) (bN (uE ((a.num*b.den) - (b.num*a.den)) (a.den*b.den))<| .fin []))) (p:=gD a/\Nr (aR a) (0=((kF a b).1.num)/\0=((kF a b).1.den)/\(false)=((kF a b).2)/\True) (gD b/\Nr (aR b) (0=((kF a b).1.num)/\0=((kF a b).1.den)/\(false)=((kF a b).2)/\True) (bO (a.num*b.den)/\bO (b.num*a.den)/\bO ((a.num*b.den) - (b.num*a.den))/\bO (a.den*b.den)/\yG ((a.num*b.den) - (b.num*a.den)) (a.den*b.den)/\(((jI (bS ((a.num*b.den) - (b.num*a.den)) (a.den*b.den))).1).num)=((kF a b).1.num)/\(((jI (bS ((a.num*b.den) - (b.num*a.den)) (a.den*b.den))).1).den)=((kF a b).1.den)/\((jI (bS ((a.num*b.den) - (b.num*a.den)) (a.den*b.den))).2)=((kF a b).2)/\True))) ?_;refine⟨kN a,dm (fun g11=>?_) fun g11=>?_⟩
 ·apply et3<;>((rw[kF,VK (.inl g11)];rfl))
 ·refine⟨kN b,dm (fun c0=>?_) fun c0=>?_⟩
  ·apply et3<;>((rw[kF,VK (.inr c0)];rfl))
  ·have q1:=bT g11;have q2:=bT c0;have m1:=gA (x:=a.num) (y:=b.den) aGS aGS;have m2:=gA (x:=b.num) (y:=a.den) aGS aGS;have m3:=gA (x:=a.den) (y:=b.den) aGS aGS;have m4:=gA (x:=a.num) (y:=b.num) aGS aGS;have m5:=gA (x:=a.den) (y:=b.num) aGS aGS;refine⟨aGS,aGS,aGS,aGS,IR _ _ aGR aGR,?_,?_,?_,trivial⟩<;>((rw[kF,FP g11 c0];done))
abbrev AB (a:aB)(b:aB):Prop:=Cn 24 [aGv a,aGv b] (vI (eB a b)) []
def Ku (a b:aB):AB a b:=by
 refine cq Tryz.func24 (.call (vB (aR a)) []<| .br (.fin []) (.call (vB (aR b)) []<| aGQ<| .br (.fin []) (.br (.fin []) (.br (.fin []) (.fin []))))) (p:=gQ a/\Nr (aR a) (0=(eB a b)/\True) (gQ b/\Nr (aR b) (0=(eB a b)/\True) (bO (a.num*b.den)/\bO (b.num*a.den)/\Br ((a.num*b.den)<(b.num*a.den)) ((-1:Int)=(eB a b)/\True) (Br ((b.num*a.den)<(a.num*b.den)) (1=(eB a b)/\True) (0=(eB a b)/\True))))) ?_;refine⟨lH a,dm (fun g10=>?_) fun g10=>?_⟩
 ·apply et1
  ·(rw[eB,IQ (.inl g10)];done)
 ·refine⟨lH b,dm (fun c0=>?_) fun c0=>?_⟩
  ·apply et1
   ·(rw[eB,IQ (.inr c0)];done)
  ·have q1:=bT g10;have q2:=bT c0;have m1:=gA (x:=a.num) (y:=b.den) aGS aGS;have m2:=gA (x:=b.num) (y:=a.den) aGS aGS;have m3:=gA (x:=a.den) (y:=b.den) aGS aGS;have m4:=gA (x:=a.num) (y:=b.num) aGS aGS;have m5:=gA (x:=a.den) (y:=b.num) aGS aGS;refine⟨aGS,aGS,dd (fun c1=>?_) fun c1=>?_⟩
   ·apply et1
    ·(rw[eB,vJ g10 c0];(rw[if_pos c1];done))
   ·apply dd<;>intro c2
    ·apply et1
     ·(rw[eB,vJ g10 c0];(rw[if_neg c1,if_pos c2];done))
    ·apply et1
     ·(rw[eB,vJ g10 c0];(rw[if_neg c1,if_neg c2];done))
abbrev Kv (a:aB)(b:aB):Prop:=Cn 95 [aGv a,aGv b] (vI (eB a b)) []
def aAA (a b:aB):Kv a b:=by
 refine cq Tryz.func95 (.call (vB (aR a)) []<| .br (.fin []) (.call (vB (aR b)) []<| aGQ<| .br (.fin []) (.br (.fin []) (.br (.fin []) (.fin []))))) (p:=gD a/\Nr (aR a) (0=(eB a b)/\True) (gD b/\Nr (aR b) (0=(eB a b)/\True) (bO (a.num*b.den)/\bO (b.num*a.den)/\Br ((a.num*b.den)<(b.num*a.den)) ((-1:Int)=(eB a b)/\True) (Br ((b.num*a.den)<(a.num*b.den)) (1=(eB a b)/\True) (0=(eB a b)/\True))))) ?_;refine⟨kN a,dm (fun g10=>?_) fun g10=>?_⟩
 ·apply et1
  ·(rw[eB,IQ (.inl g10)];done)
 ·refine⟨kN b,dm (fun c0=>?_) fun c0=>?_⟩
  ·apply et1
   ·(rw[eB,IQ (.inr c0)];done)
  ·have q1:=bT g10;have q2:=bT c0;have m1:=gA (x:=a.num) (y:=b.den) aGS aGS;have m2:=gA (x:=b.num) (y:=a.den) aGS aGS;have m3:=gA (x:=a.den) (y:=b.den) aGS aGS;have m4:=gA (x:=a.num) (y:=b.num) aGS aGS;have m5:=gA (x:=a.den) (y:=b.num) aGS aGS;refine⟨aGS,aGS,dd (fun c1=>?_) fun c1=>?_⟩
   ·apply et1
    ·(rw[eB,vJ g10 c0];(rw[if_pos c1];done))
   ·apply dd<;>intro c2
    ·apply et1
     ·(rw[eB,vJ g10 c0];(rw[if_neg c1,if_pos c2];done))
    ·apply et1
     ·(rw[eB,vJ g10 c0];(rw[if_neg c1,if_neg c2];done))
def C4 (x:Int):Bool:=decide (-9<=x/\x<=9)
def AW (x:Int):Bool:=decide (0<=x/\x<=99)
def kX (n:Int)(r:Z):Bool:=r.all C4&&decide ((r.length:Int)=n)
def bY (p:bC):Bool:=decide (1<=(p.q.length:Int)/\(p.q.length:Int)<=15)&&(decide ((p.rows.length:Int)<=64)&&(decide ((p.b.length:Int)=p.rows.length)&&((p.rows++[p.q]).all (kX p.q.length)&&p.b.all AW)))
def nT {p:bC}(h: ¬((1<=(p.q.length:Int)/\(p.q.length:Int)<=15)/\(p.rows.length:Int)<=64/\(p.b.length:Int)=p.rows.length)):bY p=false:=by
 cases e:bY p with
 | false=>rfl
 | true=>
   simp only[bY,aBB,aFI] at e;exact absurd ⟨e.1,e.2.1,e.2.2.1⟩ h
def Rp {p:bC}(h:(p.rows++[p.q]).all (kX p.q.length)=false):bY p=false:=by simp only[bY,h,Bool.false_and,Bool.and_false]
def AC {p:bC}{k:Nat}{r:Z}(h:(p.rows++[p.q])[k]? =some r)(hr:kX p.q.length r=false):bY p=false:=Rp (eT h hr)
def Hi {p:bC}{k:Nat}{r:Z}(h:p.rows[k]? =some r)(hr:kX p.q.length r=false):bY p=false:=by
 refine AC (k:=k) (r:=r) ?_ hr;rw[aFG (aCO.1 h).1];exact h
def Tj {p:bC}(hr:kX p.q.length p.q=false):bY p=false:=AC (k:=p.rows.length) (r:=p.q) (by simp) hr
def Kw {p:bC}{k:Nat}{x:Int}(h:p.b[k]? =some x)(hx:AW x=false):bY p=false:=by
 simp only[bY,eT h hx,Bool.and_false]
def NT {p:bC}(h:(1<=(p.q.length:Int)/\(p.q.length:Int)<=15)/\(p.rows.length:Int)<=64/\(p.b.length:Int)=p.rows.length)(h1:(p.rows++[p.q]).all (kX p.q.length)=true)(h2:p.b.all AW=true):bY p=true:=by
 simp only[bY,h1,h2,Bool.and_true,aBB,aFI];exact h
def Kx {n:Int}{r:Z}{k:Nat}{x:Int}(h:r[k]? =some x)(hx:C4 x=false):kX n r=false:=by simp only[kX,eT h hx,Bool.false_and]
def NU {n:Int}{r:Z}(h: ¬(r.length:Int)=n):kX n r=false:=by simp only[kX,decide_eq_false h,Bool.and_false]
def Ky {n:Int}{r:Z}(h:r.all C4=true)(hl:(r.length:Int)=n):kX n r=true:=by simp only[kX,h,decide_eq_true hl,Bool.and_true]
def gE {p:bC}(h:bY p=true):(1<=p.q.length/\p.q.length<=15)/\p.rows.length<=64/\p.b.length=p.rows.length/\(∀r∈p.rows++[p.q],r.length=p.q.length/\ ∀x∈r,-9<=x/\x<=9)/\ ∀x∈p.b,0<=x/\x<=99:=by
 simp only[bY,aBB,aFI,aCS] at h;obtain⟨h1,h2,h3,h4,h5⟩:=h;refine⟨aGR,aGR,aGR,fun r hr=>?_,fun x hx=>?_⟩
 ·have:=h4 r hr;simp only[kX,aBB,aFI,aCS] at this;refine⟨aGR,fun x hx=>?_⟩;have:=this.1 x hx;simpa [C4] using this
 have:=h5 x hx;simpa [AW] using this
def aC0 {p:bC}(hp: ∀r∈p.rows,r.length<=1048576)(ho:p.q.length<=1048576){k:Nat}{r:Z}(h:((([]:List Z)++p.rows)++[p.q])[k]? =some r):r.length<=1048576:=by
 have:=aBD h;simp only[aFy,aCy,aFU] at this;rcases this with h | rfl
 ·exact hp _ h
 exact ho
abbrev aHA(x:bC):Ar:=.agg [.sl 3 1 (x.q.map intD),.sl 51 1 (x.rows.map aD),.sl 3 1 (x.b.map intD)]
abbrev tD (p:bC):Prop:=Cn 57 [aHA p] (vB (bY p)) []
abbrev aHC(x:bC)(p:Prop):Prop:=Lx (x.q.map intD)<| Lx (x.rows.map aD)<| Lx (x.b.map intD)<| p
def Cl (p:bC)(hp: ∀r∈p.rows,r.length<=1048576):tD p:=by
 refine cq Tryz.func57 (.len p.q.length<| .call (vB (decide (1<=(p.q.length:Int)/\(p.q.length:Int)<=15))) []<| .br (.fin []) (.len p.rows.length<| aGQ<| .br (.fin []) (.len p.b.length<| .len p.rows.length<| aGQ<| .br (.fin []) (.appr Z aD ([]:List Z) p.rows<| .appr Z aD (([]:List Z)++p.rows) ([p.q]:List Z)<| .len (((([]:List Z)++p.rows)++[p.q]).length)<| .loop Nat (Q1 Nat) ([5,7]++rg 40 19) [] (fun k=>[(40,vI (k:Int))]) (fun k=>[]) (fun k=>k<=((([]:List Z)++p.rows)++[p.q]).length/\(((([]:List Z)++p.rows)++[p.q]).take k).all (kX p.q.length)=true) (fun k=>((([]:List Z)++p.rows)++[p.q]).length - k) (fun k=> .br (.len (((([]:List Z)++p.rows)++[p.q]).length)<| .elem _ aD ((([]:List Z)++p.rows)++[p.q]) (fun e43=> .len e43.length<| .loop Nat (Q1 Nat) ([7]++rg 46 8) [] (fun j=>[(46,vI (j:Int))]) (fun j=>[]) (fun j=>j<=e43.length/\(e43.take j).all C4=true) (fun j=>e43.length - j) (fun j=> .br (.elem _ intD e43 (fun e48=> .call (vB (decide ((-9:Int)<=e48/\e48<=9))) []<| .br (.fin []) (.back []))) (.len e43.length<| .br (.fin []) (.back []))))) (.len p.b.length<| .loop Nat (Q1 Nat) ([9]++rg 62 8) [] (fun i=>[(62,vI (i:Int))]) (fun i=>[]) (fun i=>i<=p.b.length/\(p.b.take i).all AW=true) (fun i=>p.b.length - i) (fun i=> .br (.elem _ intD p.b (fun e64=> .call (vB (decide (0<=e64/\e64<=99))) []<| .br (.fin []) (.back []))) (.fin [])))))))) (p:=aHC p<| Lm intD p.q/\(lR (p.q.length:Int) (1:Int) (15:Int)/\Nb (1<=(p.q.length:Int)/\(p.q.length:Int)<=15) ((false)=(bY p)/\True) (Lm aD p.rows/\Br (64<(p.rows.length:Int)) ((false)=(bY p)/\True) (Lm intD p.b/\(Lm aD p.rows/\Nb ((p.b.length:Int)=(p.rows.length:Int)) ((false)=(bY p)/\True) ([]=([]:List Z).map aD/\p.rows.map aD=p.rows.map aD/\(([]:List Z).length+p.rows.length)*24<=140737488355328/\((([]:List Z)++p.rows).map aD=(([]:List Z)++p.rows).map aD/\[[.sl 3 1 (p.q.map intD)]]=([p.q]:List Z).map aD/\((([]:List Z)++p.rows).length+([p.q]:List Z).length)*24<=140737488355328/\(Lm aD ((([]:List Z)++p.rows)++[p.q])/\((∃(k:Nat),0=(k:Int)/\k<=((([]:List Z)++p.rows)++[p.q]).length/\(((([]:List Z)++p.rows)++[p.q]).take k).all (kX p.q.length)=true)/\ ∀(k:Nat),(k<=((([]:List Z)++p.rows)++[p.q]).length/\(((([]:List Z)++p.rows)++[p.q]).take k).all (kX p.q.length)=true)->Br ((k:Int)<((((([]:List Z)++p.rows)++[p.q]).length:Nat):Int)) (0<=(k:Int)/\Lm aD ((([]:List Z)++p.rows)++[p.q])/\(k:Int)<((((([]:List Z)++p.rows)++[p.q]).length:Nat):Int)/\Em aD ((([]:List Z)++p.rows)++[p.q]) k fun e43=>Lm intD e43/\((∃(j:Nat),0=(j:Int)/\j<=e43.length/\(e43.take j).all C4=true)/\ ∀(j:Nat),(j<=e43.length/\(e43.take j).all C4=true)->Br ((j:Int)<(e43.length:Int)) (0<=(j:Int)/\Em intD e43 j fun e48=>lR e48 (-9:Int) (9:Int)/\Nb ((-9:Int)<=e48/\e48<=9) ((false)=(bY p)/\True) (bO ((j:Int)+1)/\ ∃(j' :Nat),((j:Int)+1)=(j' :Int)/\(j' <=e43.length/\(e43.take j').all C4=true)/\e43.length - j' <e43.length - j)) (Lm intD e43/\Nb ((e43.length:Int)=(p.q.length:Int)) ((false)=(bY p)/\True) (bO ((k:Int)+1)/\ ∃(k' :Nat),((k:Int)+1)=(k' :Int)/\(k' <=((([]:List Z)++p.rows)++[p.q]).length/\(((([]:List Z)++p.rows)++[p.q]).take k').all (kX p.q.length)=true)/\((([]:List Z)++p.rows)++[p.q]).length - k' <((([]:List Z)++p.rows)++[p.q]).length - k)))) (Lm intD p.b/\((∃(i:Nat),0=(i:Int)/\i<=p.b.length/\(p.b.take i).all AW=true)/\ ∀(i:Nat),(i<=p.b.length/\(p.b.take i).all AW=true)->Br ((i:Int)<(p.b.length:Int)) (0<=(i:Int)/\Em intD p.b i fun e64=>lR e64 (0:Int) (99:Int)/\Nb (0<=e64/\e64<=99) ((false)=(bY p)/\True) (bO ((i:Int)+1)/\ ∃(i' :Nat),((i:Int)+1)=(i' :Int)/\(i' <=p.b.length/\(p.b.take i').all AW=true)/\p.b.length - i' <p.b.length - i)) ((true)=(bY p)/\True)))))))))))) ?_;refine lx fun n0=>lx fun n1=>lx fun n2=>?_;refine⟨aAb _,qU _ _ _,dn (fun g16=>?_) fun g16=>?_⟩
 ·apply et1
  ·(exact(nT aGR).symm)
 ·refine⟨aAb _,dd (fun g22=>?_) fun g22=>?_⟩
  ·apply et1
   ·(exact(nT aGR).symm)
  ·refine⟨aAb _,aAb _,dn (fun c0=>?_) fun c0=>?_⟩
   ·apply et1
    ·(exact(nT aGR).symm)
   ·refine⟨rfl,rfl,by simp;omega,rfl,rfl,by simp;omega,aAb _,⟨0,rfl,aBC _,rfl⟩,fun k ⟨hk,ha⟩=>?_⟩;apply dd<;>intro c1
    ·have hLk:k<65:=by simp at c1;omega
     refine⟨aGR,aAb _,aGR,rfl,aGR,fun e43 h43=>?_⟩;have he43:=aC0 hp aGR h43;refine⟨aAb _,⟨0,rfl,aBC _,rfl⟩,fun j ⟨hj,hb⟩=>?_⟩;apply dd<;>intro c2
     ·refine⟨aGR,rfl,aGR,fun e48 h48=>?_⟩;refine⟨qU _ _ _,dn (fun c3=>?_) fun c3=>?_⟩
      ·apply et1
       ·(exact(AC h43 (Kx h48 (decide_eq_false c3))).symm)
      ·refine⟨aGS,?_⟩;exact⟨j+1,rfl,⟨aGR,cL h48 hb (decide_eq_true c3)⟩,aGR⟩
     ·refine⟨aAb _,dn (fun c4=>?_) fun c4=>?_⟩
      ·apply et1
       ·(exact(AC h43 (NU c4)).symm)
      ·refine⟨aGS,?_⟩;exact⟨k+1,rfl,⟨aGR,cL h43 ha (Ky (dD aGR hb) aGR)⟩,aGR⟩
    ·have hrows:=dD aGR ha;refine⟨aAb _,⟨0,rfl,aBC _,rfl⟩,fun i ⟨hi,hc⟩=>?_⟩;apply dd<;>intro c5
     ·refine⟨aGR,rfl,aGR,fun e64 h64=>?_⟩;refine⟨qU _ _ _,dn (fun c6=>?_) fun c6=>?_⟩
      ·apply et1
       ·(exact(Kw h64 (decide_eq_false c6)).symm)
      ·refine⟨aGS,?_⟩;exact⟨i+1,rfl,⟨aGR,cL h64 hc (decide_eq_true c6)⟩,aGR⟩
     ·apply et1
      ·(exact(NT aGR hrows (dD aGR hc)).symm)
abbrev Bp (p:bC):Prop:=Cn 91 [aHA p] (vB (bY p)) []
def NV (p:bC):Bp p:=by
 refine cq Tryz.func91 (.len p.q.length<| .call (vB (decide (1<=(p.q.length:Int)/\(p.q.length:Int)<=15))) []<| .br (.fin []) (.len p.rows.length<| aGQ<| .br (.fin []) (.len p.rows.length<| .len p.b.length<| aGQ<| .br (.fin []) (.loop Nat (Q1 Nat) ([4]++rg 28 12) [] (fun k=>[(4,vI (k:Int))]) (fun k=>[]) (fun k=>k<=p.q.length/\(p.q.take k).all C4=true) (fun k=>p.q.length - k) (fun k=> .br (.elem _ intD p.q (fun e36=> .call (vB (decide ((-9:Int)<=e36/\e36<=9))) []<| .br (.fin []) (.back []))) (.loop Nat (Q1 Nat) ([5,6]++rg 40 39) [] (fun i=>[(5,vI (i:Int))]) (fun i=>[]) (fun i=>i<=p.rows.length/\(p.rows.take i).all (kX p.q.length)=true/\(p.b.take i).all AW=true) (fun i=>p.rows.length - i) (fun i=> .len p.rows.length<| .br (.elem _ aD p.rows (fun e50=> .len e50.length<| .br (.fin []) (.elem _ intD p.b (fun e59=> .call (vB (decide (0<=e59/\e59<=99))) []<| aGQ<| .br (.fin []) (.loop Nat (Q1 Nat) ([6]++rg 64 15) [] (fun j=>[(6,vI (j:Int))]) (fun j=>[]) (fun j=>j<=p.q.length/\(e50.take j).all C4=true) (fun j=>p.q.length - j) (fun j=> .br (.elem _ aD p.rows (fun e72=> .elem _ intD e72 (fun e75=> .call (vB (decide ((-9:Int)<=e75/\e75<=9))) []<| .br (.fin []) (.back [])))) (.back []))))))) (.fin [])))))))) (p:=aHC p<| Lm intD p.q/\(gC (p.q.length:Int) (1:Int) (15:Int)/\Nb (1<=(p.q.length:Int)/\(p.q.length:Int)<=15) ((false)=(bY p)/\True) (Lm aD p.rows/\Br (64<(p.rows.length:Int)) ((false)=(bY p)/\True) (Lm aD p.rows/\(Lm intD p.b/\Nb ((p.rows.length:Int)=(p.b.length:Int)) ((false)=(bY p)/\True) ((∃(k:Nat),0=(k:Int)/\k<=p.q.length/\(p.q.take k).all C4=true)/\ ∀(k:Nat),(k<=p.q.length/\(p.q.take k).all C4=true)->Br ((k:Int)<(p.q.length:Int)) (0<=(k:Int)/\Em intD p.q k fun e36=>gC e36 (-9:Int) (9:Int)/\Nb ((-9:Int)<=e36/\e36<=9) ((false)=(bY p)/\True) (bO ((k:Int)+1)/\ ∃(k' :Nat),((k:Int)+1)=(k' :Int)/\(k' <=p.q.length/\(p.q.take k').all C4=true)/\p.q.length - k' <p.q.length - k)) ((∃(i:Nat),0=(i:Int)/\i<=p.rows.length/\(p.rows.take i).all (kX p.q.length)=true/\(p.b.take i).all AW=true)/\ ∀(i:Nat),(i<=p.rows.length/\(p.rows.take i).all (kX p.q.length)=true/\(p.b.take i).all AW=true)->Lm aD p.rows/\Br ((i:Int)<(p.rows.length:Int)) (0<=(i:Int)/\Em aD p.rows i fun e50=>Lm intD e50/\Nb ((e50.length:Int)=(p.q.length:Int)) ((false)=(bY p)/\True) (0<=(i:Int)/\Em intD p.b i fun e59=>gC e59 (0:Int) (99:Int)/\Nb (0<=e59/\e59<=99) ((false)=(bY p)/\True) ((∃(j:Nat),0=(j:Int)/\j<=p.q.length/\(e50.take j).all C4=true)/\ ∀(j:Nat),(j<=p.q.length/\(e50.take j).all C4=true)->Br ((j:Int)<(p.q.length:Int)) (0<=(i:Int)/\Em aD p.rows i fun e72=>0<=(j:Int)/\Em intD e72 j fun e75=>gC e75 (-9:Int) (9:Int)/\Nb ((-9:Int)<=e75/\e75<=9) ((false)=(bY p)/\True) (bO ((j:Int)+1)/\ ∃(j' :Nat),((j:Int)+1)=(j' :Int)/\(j' <=p.q.length/\(e50.take j').all C4=true)/\p.q.length - j' <p.q.length - j)) (bO ((i:Int)+1)/\ ∃(i' :Nat),((i:Int)+1)=(i' :Int)/\(i' <=p.rows.length/\(p.rows.take i').all (kX p.q.length)=true/\(p.b.take i').all AW=true)/\p.rows.length - i' <p.rows.length - i)))) ((true)=(bY p)/\True)))))))) ?_;refine lx fun n0=>lx fun n1=>lx fun n2=>?_;refine⟨aAb _,kM _ _ _,dn (fun g13=>?_) fun g13=>?_⟩
 ·apply et1
  ·(exact(nT aGR).symm)
 ·refine⟨aAb _,dd (fun g19=>?_) fun g19=>?_⟩
  ·apply et1
   ·(exact(nT aGR).symm)
  ·refine⟨aAb _,aAb _,dn (fun c0=>?_) fun c0=>?_⟩
   ·apply et1
    ·(exact(nT aGR).symm)
   ·refine⟨⟨0,rfl,aBC _,rfl⟩,fun k ⟨hk,ha⟩=>?_⟩;apply dd<;>intro c1
    ·refine⟨aGR,rfl,aGR,fun e36 h36=>?_⟩;refine⟨kM _ _ _,dn (fun c2=>?_) fun c2=>?_⟩
     ·apply et1
      ·(exact(Tj (Kx h36 (decide_eq_false c2))).symm)
     ·refine⟨aGS,?_⟩;exact⟨k+1,rfl,⟨aGR,cL h36 ha (decide_eq_true c2)⟩,aGR⟩
    ·have hobj:=dD aGR ha;refine⟨⟨0,rfl,aBC _,rfl,rfl⟩,fun i ⟨hi,hr,hl⟩=>?_⟩;refine⟨aAb _,dd (fun c3=>?_) fun c3=>?_⟩
     ·refine⟨aGR,rfl,aGR,fun e50 h50=>?_⟩;refine⟨aAb _,dn (fun g55=>?_) fun g55=>?_⟩
      ·apply et1
       ·(exact(Hi h50 (NU g55)).symm)
      ·refine⟨aGR,rfl,aGR,fun e59 h59=>?_⟩;refine⟨kM _ _ _,dn (fun c4=>?_) fun c4=>?_⟩
       ·apply et1
        ·(exact(Kw h59 (decide_eq_false c4)).symm)
       ·refine⟨⟨0,rfl,aBC _,rfl⟩,fun j ⟨hj,hb⟩=>?_⟩;apply dd<;>intro c5
        ·refine⟨aGR,rfl,aGR,fun e72 h72=>?_⟩;obtain rfl:=(bE h50 h72).symm;refine⟨aGR,rfl,aGR,fun e75 h75=>?_⟩;refine⟨kM _ _ _,dn (fun c6=>?_) fun c6=>?_⟩
         ·apply et1
          ·(exact(Hi h50 (Kx h75 (decide_eq_false c6))).symm)
         ·refine⟨aGS,?_⟩;exact⟨j+1,rfl,⟨aGR,cL h75 hb (decide_eq_true c6)⟩,aGR⟩
        ·refine⟨aGS,?_⟩;exact⟨i+1,rfl,⟨aGR,cL h50 hr (Ky (dD aGR hb) aGR),cL h59 hl (decide_eq_true c4)⟩,aGR⟩
     ·have hrows:(p.rows++[p.q]).all (kX p.q.length)=true:=by rw[List.all_append,dD aGR hr,List.all_cons,Ky hobj rfl];rfl
      apply et1
      ·(exact(NT aGR hrows (dD aGR hl)).symm)
def bD {α:Type}{l:List α}{k:Nat}{x y:α}(h:l[k]? =some x):l.getD k y=x:=by simp[aCz,h]
def Rq {p:Nat->Bool}{k:Nat}(h:(List.range k).all p=true)(hk:p k=true):(List.range (k+1)).all p=true:=by
 rw[List.range_succ,List.all_append,h];simp[hk]
def Hj {p:Nat->Bool}{n k:Nat}(hk:k<n)(h:p k=false):(List.range n).all p=false:=by
 rw[List.all_eq_false];exact⟨k,aEt.2 hk,by rw[h];decide⟩
def aN (n:Int):aB:=⟨n,1⟩
def zR:aB:=⟨0,0⟩
def C5 (n:Int)(x s:aB):aB × Bool:=((fH s (dC (aN n) x).1).1,(dC (aN n) x).2&&(fH s (dC (aN n) x).1).2)
def rZ:Z->List aB->aB->aB × Bool
 | n::l,x::xs,s=>if (C5 n x s).2=true then rZ l xs (C5 n x s).1 else (zR,false)
 | _,_,s=>(s,true)
def VL {l:Z}{xs:List aB}{k:Nat}{n:Int}{x s:aB}(hl:l[k]? =some n)(hx:xs[k]? =some x):rZ (l.drop k) (xs.drop k) s=if (C5 n x s).2=true then rZ (l.drop (k+1)) (xs.drop (k+1)) (C5 n x s).1 else (zR,false):=by
 obtain⟨h1,rfl⟩:=aCO.1 hl;obtain⟨h2,rfl⟩:=aCO.1 hx;rw[List.drop_eq_getElem_cons h1,List.drop_eq_getElem_cons h2,rZ]
def aAB {l:Z}{xs:List aB}{k:Nat}{n:Int}{x s:aB}(hl:l[k]? =some n)(hx:xs[k]? =some x)(h1:(dC (aN n) x).2=true)(h2:(fH s (dC (aN n) x).1).2=true):rZ (l.drop k) (xs.drop k) s=rZ (l.drop (k+1)) (xs.drop (k+1)) (fH s (dC (aN n) x).1).1:=by
 rw[VL hl hx,if_pos (by rw[C5,h1,h2];rfl)];rfl
def VM {l:Z}{xs:List aB}{k:Nat}{n:Int}{x s:aB}(hl:l[k]? =some n)(hx:xs[k]? =some x)(h:(dC (aN n) x).2=false\/(fH s (dC (aN n) x).1).2=false):rZ (l.drop k) (xs.drop k) s=(zR,false):=by
 rw[VL hl hx,if_neg];rcases h with h | h
 ·rw[C5,h];simp
 rw[C5,h];simp
def XE {l:Z}{xs:List aB}{k:Nat}{s:aB}(h:l.length<=k\/xs.length<=k):rZ (l.drop k) (xs.drop k) s=(s,true):=by
 rcases h with h | h
 ·rw[List.drop_eq_nil_of_le h];simp[rZ]
 rw[List.drop_eq_nil_of_le h];cases l.drop k<;>simp[rZ]
def gB (l:Z)(xs:List aB):aB × Bool:=if l.length=xs.length then rZ l xs (aN 0) else (zR,false)
def GW {l:Z}{xs:List aB}(h:l.length=xs.length):gB l xs=rZ l xs (aN 0):=by rw[gB,if_pos h]
def aAC {l:Z}{xs:List aB}(h: ¬l.length=xs.length):gB l xs=(zR,false):=by rw[gB,if_neg h]
def tR (p:bC)(ys:List aB):aB × Bool:=if bY p=true then gB p.b ys else (zR,false)
def Rr {p:bC}{ys:List aB}(h:bY p=true):tR p ys=gB p.b ys:=by rw[tR,if_pos h]
def aC1 {p:bC}{ys:List aB}(h:bY p=false):tR p ys=(zR,false):=by rw[tR,if_neg (by rw[h];decide)]
def Bq (r:aB):Bool:=aR r&& !decide (r.num<0)
def gN (l:List aB)(n:Int):Bool:=decide ((l.length:Int)=n)&&l.all Bq
def FR (l:List aB)(n:Int):gN l n=((decide ((l.length:Int)=n)&&l.all aR)&&l.all fun r=> !decide (r.num<0)):=by
 have:l.all Bq=(l.all aR&&l.all fun r=> !decide (r.num<0)):=by
  induction l with
  | nil=>rfl
  | cons a l ih=>simp only[List.all_cons,ih,Bq];cases aR a<;>cases (!decide (a.num<0))<;>cases l.all aR<;>simp
 rw[gN,this,Bool.and_assoc]
def tJ (rs:List Z)(k:Nat):Z:=rs.map fun r=>r.getD k 0
def XF {rs:List Z}{i k:Nat}{r:Z}{v:Int}(hr:rs[i]? =some r)(hv:r[k]? =some v):tJ (rs.take (i+1)) k=tJ (rs.take i) k++[v]:=by
 rw[bW hr];simp[tJ,hv]
def pM (p:bC)(ys:List aB)(k:Nat):Bool:=(gB (tJ p.rows k) ys).2&&decide (0<=eB (gB (tJ p.rows k) ys).1 (aN (p.q.getD k 0)))
def oU (p:bC)(ys:List aB):Bool:=bY p&&(gN ys p.rows.length&&(List.range p.q.length).all (pM p ys))
abbrev sA (n:Int):Prop:=Cn 59 [.one (.int .i64 n)] (.agg [vI ((aN n).num),vI ((aN n).den)]) []
def Co (n:Int):sA n:=by
 refine cq Tryz.func59 (.fin []) (p:=n=((aN n).num)/\1=((aN n).den)/\True) ?_;apply et2<;>(rfl)
abbrev mE (n:Int):Prop:=Cn 49 [.one (.int .i64 n)] (.agg [vI ((aN n).num),vI ((aN n).den)]) []
def sK (n:Int):mE n:=by
 refine cq Tryz.func49 (.fin []) (p:=n=((aN n).num)/\1=((aN n).den)/\True) ?_;apply et2<;>(rfl)
abbrev wM (l:Z)(xs:List aB):AV × aGJ:=(.tup [.agg [vI ((gB l xs).1.num),vI ((gB l xs).1.den)],vB ((gB l xs).2)],[])
abbrev Bs (l:Z)(xs:List aB):Prop:=Cn 58 [.one (.sl 3 1 (l.map intD)),.one (.sl 40 2 (xs.map aA))] (wM l xs).1 (wM l xs).2
def NW (l:Z)(xs:List aB):Bs l xs:=by
 refine cq Tryz.func58 (.call (.agg [vI ((aN (0:Int)).num),vI ((aN (0:Int)).den)]) []<| .len l.length<| .len xs.length<| .br (.fin []) (.len l.length<| .loop (Nat × aB) (Q2 Nat aB) ([7,8,9,10,11,12]++rg 22 27++[50,51]) [600,900,1100] (fun yy0=>[(22,vI (yy0.1:Int))]) (fun yy0=>[(600,some (.box 40 [vI yy0.2.num,vI yy0.2.den]))]) (fun yy0=>yy0.1<=l.length/\rZ (l.drop yy0.1) (xs.drop yy0.1) yy0.2=rZ l xs (aN 0)) (fun yy0=>l.length - yy0.1) (fun yy0=> .br (.elem _ intD l (fun e25=> .call (.agg [vI ((aN e25).num),vI ((aN e25).den)]) []<| .elem _ aA xs (fun e32=>bN (zW (aN e25) e32)<| bN (zV yy0.2 ((dC (aN e25) e32).1))<| .br (.fin []) (aGQ<| .br (.fin []) (.back [(600,600)]))))) (.fin [])))) (p:=Lx (l.map intD)<| Lx (xs.map aA)<| sA (0:Int)/\(Lm intD l/\(Lm aA xs/\Nb ((l.length:Int)=(xs.length:Int)) (0=((gB l xs).1.num)/\0=((gB l xs).1.den)/\(false)=((gB l xs).2)/\True) (Lm intD l/\((∃(k:Nat) (s:aB),0=(k:Int)/\((aN (0:Int)).num)=s.num/\((aN (0:Int)).den)=s.den/\k<=l.length/\rZ (l.drop k) (xs.drop k) s=rZ l xs (aN 0))/\ ∀(k:Nat) (s:aB),(k<=l.length/\rZ (l.drop k) (xs.drop k) s=rZ l xs (aN 0))->Br ((k:Int)<(l.length:Int)) (0<=(k:Int)/\Em intD l k fun e25=>sA e25/\0<=(k:Int)/\Em aA xs k fun e32=>D4 (aN e25) e32/\D3 s ((dC (aN e25) e32).1)/\Nr ((dC (aN e25) e32).2) (0=((gB l xs).1.num)/\0=((gB l xs).1.den)/\(false)=((gB l xs).2)/\True) (Nr ((fH s ((dC (aN e25) e32).1)).2) (0=((gB l xs).1.num)/\0=((gB l xs).1.den)/\(false)=((gB l xs).2)/\True) (bO ((k:Int)+1)/\ ∃(k' :Nat) (s' :aB),((k:Int)+1)=(k' :Int)/\(((fH s ((dC (aN e25) e32).1)).1).num)=s'.num/\(((fH s ((dC (aN e25) e32).1)).1).den)=s'.den/\(k' <=l.length/\rZ (l.drop k') (xs.drop k') s' =rZ l xs (aN 0))/\l.length - k' <l.length - k))) (s.num=((gB l xs).1.num)/\s.den=((gB l xs).1.den)/\(true)=((gB l xs).2)/\True)))))) ?_;refine lx fun n0=>lx fun n1=>?_;refine⟨Co (0:Int),aAb _,aAb _,dn (fun c0=>?_) fun c0=>?_⟩
 ·apply et3<;>((rw[aAC aGR]<;>rfl))
 ·refine⟨aAb _,⟨0,aN 0,rfl,rfl,rfl,aBC _,rfl⟩,fun k s ⟨hk,hd⟩=>?_⟩;apply dd<;>intro c1
  ·refine⟨aGR,rfl,aGR,fun e25 h25=>?_⟩;refine⟨Co e25,aGR,rfl,aGR,fun e32 h32=>?_⟩;refine⟨Rm (aN e25) e32,Rk s ((dC (aN e25) e32).1),dm (fun g45=>?_) fun g45=>?_⟩
   ·apply et3<;>((rw[GW aGR,<-hd,VM h25 h32 (.inl g45)]<;>rfl))
   ·apply dm<;>intro c2
    ·apply et3<;>((rw[GW aGR,<-hd,VM h25 h32 (.inr c2)]<;>rfl))
    ·refine⟨aGS,?_⟩;exact⟨k+1,(fH s (dC (aN e25) e32).1).1,rfl,rfl,rfl,⟨aGR,by rw[<-hd,aAB h25 h32 g45 c2]⟩,aGR⟩
  ·apply et3<;>((rw[GW aGR,<-hd,XE aGR]<;>rfl))
abbrev D7 (p:bC)(ys:List aB):AV × aGJ:=(.tup [.agg [vI ((tR p ys).1.num),vI ((tR p ys).1.den)],vB ((tR p ys).2)],[])
abbrev Kz (p:bC)(ys:List aB):Prop:=Cn 23 [aHA p,.one (.sl 40 2 (ys.map aA))] (D7 p ys).1 (D7 p ys).2
def aAD (p:bC)(ys:List aB)(hrs: ∀r∈p.rows,r.length<=1048576):Kz p ys:=by
 refine cq Tryz.func23 (.call (vB (bY p)) []<| .br (.fin []) (bN (wM p.b ys)<| .fin [])) (p:=Lx (p.q.map intD)<| Lx (p.rows.map aD)<| Lx (p.b.map intD)<| Lx (ys.map aA)<| tD p/\Nr (bY p) (0=((tR p ys).1.num)/\0=((tR p ys).1.den)/\(false)=((tR p ys).2)/\True) (Bs p.b ys/\((gB p.b ys).1.num)=((tR p ys).1.num)/\((gB p.b ys).1.den)=((tR p ys).1.den)/\((gB p.b ys).2)=((tR p ys).2)/\True)) ?_;refine lx fun n0=>lx fun n1=>lx fun n2=>lx fun n3=>?_;refine⟨Cl p (by assumption),dm (fun c0=>?_) fun c0=>?_⟩
 ·apply et3<;>((rw[aC1 c0]<;>rfl))
 ·refine⟨NW p.b ys,?_,?_,?_,trivial⟩<;>((rw[Rr c0]<;>rfl))
abbrev K0 (l:List aB)(n:Int):Prop:=Cn 60 [.one (.sl 40 2 (l.map aA)),.one (.int .i64 n)] (vB (decide ((l.length:Int)=n)&&l.all aR)) []
def aAE (l:List aB)(n:Int):K0 l n:=by
 refine cq Tryz.func60 (.len l.length<| .loop Nat (Q1 Nat) ([6]++rg 9 8) [600] (fun k=>[(9,vI (k:Int))]) (fun k=>[]) (fun k=>k<=l.length/\(l.take k).all aR=true) (fun k=>l.length - k) (fun k=> .br (.elem _ aA l (fun e11=> .call (vB (aR e11)) []<| .br (.fin []) (.back []))) (.len l.length<| .fin []))) (p:=Lx (l.map aA)<| Lm aA l/\((∃(k:Nat),0=(k:Int)/\k<=l.length/\(l.take k).all aR=true)/\ ∀(k:Nat),(k<=l.length/\(l.take k).all aR=true)->Br ((k:Int)<(l.length:Int)) (0<=(k:Int)/\Em aA l k fun e11=>gQ e11/\Nr (aR e11) ((false)=(decide ((l.length:Int)=n)&&l.all aR)/\True) (bO ((k:Int)+1)/\ ∃(k' :Nat),((k:Int)+1)=(k' :Int)/\(k' <=l.length/\(l.take k').all aR=true)/\l.length - k' <l.length - k)) (Lm aA l/\(decide ((l.length:Int)=n))=(decide ((l.length:Int)=n)&&l.all aR)/\True))) ?_;refine lx fun n0=>?_;refine⟨aAb _,⟨0,rfl,aBC _,rfl⟩,fun k ⟨hk,ha⟩=>?_⟩;apply dd<;>intro c0
 ·refine⟨aGR,rfl,aGR,fun e11 h11=>?_⟩;refine⟨lH e11,dm (fun c1=>?_) fun c1=>?_⟩
  ·apply et1
   ·(rw[eT h11 c1,Bool.and_false];done)
  ·refine⟨aGS,?_⟩;exact⟨k+1,rfl,⟨aGR,cL h11 ha c1⟩,aGR⟩
 ·refine⟨aAb _,?_,trivial⟩
  ·(rw[dD aGR ha,Bool.and_true];done)
abbrev GX (l:List aB)(n:Int):Prop:=Cn 25 [.one (.sl 40 2 (l.map aA)),.one (.int .i64 n)] (vB (gN l n)) []
def VN (l:List aB)(n:Int):GX l n:=by
 refine cq Tryz.func25 (.len l.length<| .loop Nat (Q1 Nat) ([6]++rg 9 8) [600] (fun k=>[(9,vI (k:Int))]) (fun k=>[]) (fun k=>k<=l.length/\(l.take k).all (fun r=> !decide (r.num<0))=true) (fun k=>l.length - k) (fun k=> .br (.elem _ aA l (fun e11=> .br (.fin []) (.back []))) (.call (vB (decide ((l.length:Int)=n)&&l.all aR)) []<| .fin []))) (p:=Lx (l.map aA)<| Lm aA l/\((∃(k:Nat),0=(k:Int)/\k<=l.length/\(l.take k).all (fun r=> !decide (r.num<0))=true)/\ ∀(k:Nat),(k<=l.length/\(l.take k).all (fun r=> !decide (r.num<0))=true)->Br ((k:Int)<(l.length:Int)) (0<=(k:Int)/\Em aA l k fun e11=>Br (e11.num<0) ((false)=(gN l n)/\True) (bO ((k:Int)+1)/\ ∃(k' :Nat),((k:Int)+1)=(k' :Int)/\(k' <=l.length/\(l.take k').all (fun r=> !decide (r.num<0))=true)/\l.length - k' <l.length - k)) (K0 l n/\(decide ((l.length:Int)=n)&&l.all aR)=(gN l n)/\True))) ?_;refine lx fun n0=>?_;refine⟨aAb _,⟨0,rfl,aBC _,rfl⟩,fun k ⟨hk,ha⟩=>?_⟩;apply dd<;>intro c0
 ·refine⟨aGR,rfl,aGR,fun e11 h11=>?_⟩;apply dd<;>intro c1
  ·apply et1
   ·(rw[FR,eT (p:=fun r:aB=> !decide (r.num<0)) h11 (by rw[decide_eq_true c1];rfl),Bool.and_false];done)
  ·refine⟨aGS,?_⟩;exact⟨k+1,rfl,⟨aGR,cL h11 ha (by rw[decide_eq_false c1];rfl)⟩,aGR⟩
 ·refine⟨aAE l n,?_,trivial⟩
  ·(rw[FR,dD aGR ha,Bool.and_true];done)
abbrev K2 (l:List aB):Prop:=Cn 26 [.one (.sl 40 2 (l.map aA))] (vB (l.all Bq)) []
def aAF (l:List aB):K2 l:=by
 refine cq Tryz.func26 (.loop Nat (Q1 Nat) (rg 3 21) [] (fun k=>[(3,vI (k:Int))]) (fun k=>[]) (fun k=>k<=l.length/\(l.take k).all Bq=true) (fun k=>l.length - k) (fun k=> .len l.length<| .br (.elem _ aA l (fun e12=> .call (vB (aR e12)) []<| .br (.fin []) (.elem _ aA l (fun e19=> aGO<| .br (.fin []) (.back []))))) (.fin []))) (p:=Lx (l.map aA)<| (∃(k:Nat),0=(k:Int)/\k<=l.length/\(l.take k).all Bq=true)/\ ∀(k:Nat),(k<=l.length/\(l.take k).all Bq=true)->Lm aA l/\Br ((k:Int)<(l.length:Int)) (0<=(k:Int)/\Em aA l k fun e12=>gD e12/\Nr (aR e12) ((false)=(l.all Bq)/\True) (0<=(k:Int)/\Em aA l k fun e19=>Br (e19.num<0) ((false)=(l.all Bq)/\True) (bO ((k:Int)+1)/\ ∃(k' :Nat),((k:Int)+1)=(k' :Int)/\(k' <=l.length/\(l.take k').all Bq=true)/\l.length - k' <l.length - k))) ((true)=(l.all Bq)/\True)) ?_;refine lx fun n0=>?_;refine⟨⟨0,rfl,aBC _,rfl⟩,fun k ⟨hk,ha⟩=>?_⟩;refine⟨aAb _,dd (fun c0=>?_) fun c0=>?_⟩
 ·refine⟨aGR,rfl,aGR,fun e12 h12=>?_⟩;refine⟨kN e12,dm (fun g16=>?_) fun g16=>?_⟩
  ·apply et1
   ·(rw[eT h12 (by rw[Bq,g16];rfl)];done)
  ·refine⟨aGR,rfl,aGR,fun e19 h19=>?_⟩;obtain rfl:=(bE h12 h19).symm;apply dd<;>intro c1
   ·apply et1
    ·(rw[eT h12 (by rw[Bq,g16,decide_eq_true c1];rfl)];done)
   ·refine⟨aGS,?_⟩;exact⟨k+1,rfl,⟨aGR,cL h12 ha (by rw[Bq,g16,decide_eq_false c1];rfl)⟩,aGR⟩
 ·apply et1
  ·(rw[dD aGR ha];done)
def eK (r:aB):aB:=⟨-r.num,r.den⟩
def C6:aB:=⟨1,1⟩
def GY:aB:=⟨0,1⟩
def cB (a b c:aB):aB × Bool:=if b.num=0\/c.num=0 then (a,true) else ((kF a (dC b c).1).1,(dC b c).2&&(kF a (dC b c).1).2)
def Rt (n d:Int):Int.gcd (-n) d=Int.gcd n d:=by simp[Int.gcd]
def Tk (n d:Int):bS (-n) d=(-(bS n d).1,(bS n d).2.1,(bS n d).2.2):=by
 rcases Int.lt_trichotomy d 0 with h | h | h
 ·rw[Bo h,Bo h,Rt (-n),Int.neg_tdiv,rY];split<;>rfl
 ·subst h;rw[mQ,mQ];rfl
 rw[xG h,xG h,Rt,Int.neg_tdiv,rY];split<;>rfl
def D8 (n d:Int):bS (-n) (-d)=bS n d:=by
 rcases Int.lt_trichotomy d 0 with h | h | h
 ·rw[Bo h,xG (show 0< -d by omega)]
 ·subst h;rw[Int.neg_zero,mQ,mQ]
 rw[xG h,Bo (show -d<0 by omega),Int.neg_neg,Int.neg_neg]
def aAG {n d:Int}(h:(bS n d).2.2=true):cY (bS n d).1 (bS n d).2.1=true:=by
 rcases Int.lt_trichotomy d 0 with q | q | q
 ·rw[Bo q] at*;split at h
  ·rename_i hv;rw[if_pos hv];exact hv
  cases h
 ·subst q;rw[mQ] at h;cases h
 rw[xG q] at*;split at h
 ·rename_i hv;rw[if_pos hv];exact hv
 cases h
def XG {n d:Int}(h:(bS n d).2.2=false):bS n d=(0,0,false):=by
 rcases Int.lt_trichotomy d 0 with q | q | q
 ·rw[Bo q] at*;split at h
  ·cases h
  rename_i hv;rw[if_neg hv]
 ·subst q;exact mQ _
 rw[xG q] at*;split at h
 ·cases h
 rename_i hv;rw[if_neg hv]
def Cp {n d:Int}(h:cY n d=true):bS n d=(n,d,true):=by
 obtain⟨h1,_,_,_,h2⟩:=D2 h;rw[xG aGR,h2];simp only[Int.cast_ofNat_Int,Int.tdiv_one];rw[if_pos h]
def aAH (b c:aB):dC (eK b) c=(eK (dC b c).1,(dC b c).2):=by
 simp only[dC,eK,XC,rY];split
 ·rw[Int.neg_mul,Tk];rfl
 rfl
def aAI (a p:aB):fH a (eK p)=kF a p:=by
 simp only[fH,kF,eK,Z9]
def XH (a b c:aB):(if (eK b).num=0\/c.num=0 then (a,true) else ((fH a (dC (eK b) c).1).1,(dC (eK b) c).2&&(fH a (dC (eK b) c).1).2))=cB a b c:=by
 rw[aAH,aAI,cB];have e:(eK b).num=0↔b.num=0:=by simp only[eK];omega
 simp only[e]
def aAJ {q:Int × Int × Bool}{n d:Int}{p:Prop}[Decidable p](e:q=if p then bS n d else (0,0,false))(h:(jI q).2=true):aR (jI q).1=true:=by
 subst e;split at h
 ·rename_i hp;rw[if_pos hp];exact aAG h
 cases h
def aC2 {a c:aB}(h:(kF a c).2=true):aR (kF a c).1=true:=aAJ (q:=MI a.num a.den c.num c.den) rfl h
def aC3 {a c:aB}(h:(fH a c).2=true):aR (fH a c).1=true:=aAJ (q:=PI a.num a.den c.num c.den) rfl h
def Cq {a c:aB}(h:(aZ a c).2=true):aR (aZ a c).1=true:=aAJ (q:=MJ a.num a.den c.num c.den) rfl h
def Ru {a c:aB}(h:(aZ a c).2=false):(aZ a c).1=⟨0,0⟩:=by
 unfold aZ MJ at*;split at h
 ·rename_i hp;rw[if_pos hp,XG h];rfl
 rename_i hp;rw[if_neg hp];rfl
def K3 {a b c:aB}(ha:aR a=true)(h:(cB a b c).2=true):aR (cB a b c).1=true:=by
 unfold cB at*;split at h
 ·rename_i hp;rw[if_pos hp];exact ha
 rename_i hp;rw[if_neg hp];simp only[aBB] at h;exact aC2 h.2
def PM {a:aB}(h:aR a=true)(h0:a.num≠0):aZ C6 a=((if 0<a.num then ⟨a.den,a.num⟩ else ⟨-a.den,-a.num⟩),true):=by
 obtain⟨h1,h2,h3,h4,h5⟩:=bT h;have v1:cY 1 1=true:=by decide
 rw[aZ,show MJ C6.num C6.den a.num a.den=bS (1*a.den) (1*a.num) from yE v1 h,Int.one_mul,Int.one_mul];by_cases hp:0<a.num
 ·rw[if_pos hp,Cp (by simp only[cY,Int.gcd_comm a.den,h5,aBB,aFI,and_true];exact⟨qF aGR aGR,qF aGR aGR⟩)];rfl
 rw[if_neg hp,<-D8,Cp (by
  have e:Int.gcd (-a.den) (-a.num)=1:=by rw[Z8,Int.gcd_comm];exact h5
  simp only[cY,e,aBB,aFI,and_true];exact⟨qF aGR aGR,qF aGR aGR⟩)];rfl
def aC4 {c a:aB}(hc:aR c=true)(ha:aR a=true)(h0:a.num≠0):dC c (aZ C6 a).1=aZ c a:=by
 have hi:=Cq (show (aZ C6 a).2=true by rw[PM ha h0]);rw[PM ha h0] at*;rw[aZ,yE hc ha];split at hi
 ·rename_i hp;rw[if_pos hp,dC,vH hc hi]
 rename_i hp;rw[if_neg hp,dC,vH hc hi];simp only[Int.mul_neg];rw[D8]
def zero_sub {x:aB}(h:aR x=true):kF GY x=(eK x,true):=by
 have v:cY 0 1=true:=by decide
 rw[kF,show MI GY.num GY.den x.num x.den=bS (0*x.den - x.num*1) (1*x.den) from FP v h];rw[Int.zero_mul,Int.mul_one,Int.one_mul,Int.zero_sub,Cp (by rw[rY];exact h)];rfl
def NX {d:Int}(h:d≠0):bS 0 d=(0,1,true):=by
 have key: ∀e:Int,0<e->bS 0 e=(0,1,true):=fun e he=>by
  have hg:((Int.gcd 0 e:Nat):Int)=e:=by rw[Int.gcd_zero_left];omega
  rw[xG he,hg,Int.zero_tdiv,Int.tdiv_self aGR];rfl
 rcases Int.lt_or_gt_of_ne h with q | q
 ·rw[<-D8,Int.neg_zero];exact key _ aGR
 exact key _ q
def aAK {c a:aB}(hc:aR c=true)(ha:aR a=true)(h0:a.num≠0):cB GY c (aZ C6 a).1=(eK (aZ c a).1,(aZ c a).2):=by
 have hb:=bT hc;have hba:=bT ha;by_cases hz:c.num=0
 ·have hd:c.den*a.num≠0:=Int.mul_ne_zero aGR h0;rw[cB,if_pos (.inl hz),aZ,yE hc ha,hz,Int.zero_mul,NX hd];rfl
 have hn: ¬(c.num=0\/(aZ C6 a).1.num=0):=by
  rw[PM ha h0];rintro(q | q)
  ·exact hz q
  revert q;split
  ·show ¬a.den=0;omega
  show ¬ -a.den=0;omega
 rw[cB,if_neg hn,aC4 hc ha h0];cases e:(aZ c a).2 with
 | true=>rw[zero_sub (Cq e)];rfl
 | false=>rw[Ru e];rfl
end Go.Proofs.YtgamjlgfnmpcjaaGreat
