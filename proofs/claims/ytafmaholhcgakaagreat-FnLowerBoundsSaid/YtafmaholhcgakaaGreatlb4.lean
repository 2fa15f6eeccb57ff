/-
  Contracts and plain laws, joined: part 5.
-/
import Derived.Test.YtafmaholhcgakaaGreatlb3
import Derived.Lib.SlicesCompact
import Derived.Lib.SliceRun
import Derived.Sort.WalkB12
import Derived.Lib.Walk
import Derived.Shelf.SlicesE.Kit
import Derived.Deep.LoopGhost
import Derived.Shelf.SlSortCmp.Insertion
namespace Go.Proofs.YtafmaholhcgakaaGreat
open Go.ChangeShapes Go.WideShapes Go.ChangeAt Go.RowKit Go.Shelf Go.Lib
set_option linter.unusedVariables false
set_option linter.unusedSimpArgs false
section
variable (eq:Nat->Nat->Bool)
def mS (d:Array Nat)(j:Nat):Bool:=decide (j=0) || !eq d[j]! d[j - 1]!
def mT (d:Array Nat)(m:Nat):List Nat:=((List.range m).filter (mS eq d)).map (d[·]!)
theorem aHR (d:Array Nat): ∀j,j<1->mS eq d j=true:=by
 intro j hj;obtain rfl:j=0:=by omega
 simp[mS]
theorem aHS {d:Array Nat}{m:Nat}(h:eq d[m]! d[m - 1]! =false):mS eq d m=true:=by simp[mS,h]
theorem aHT {d:Array Nat}{m:Nat}(hm:0<m)(h:eq d[m]! d[m - 1]! =true):mS eq d m=false:=by
 have:m≠0:=by omega
 simp[mS,h,this]
theorem oE (d:Array Nat)(m:Nat):mT eq d (m+1)=mT eq d m++(if mS eq d m=true then [d[m]!] else []):=by
 unfold mT;rw[List.range_succ,List.filter_append,aGO]
 congr 1
 by_cases h:mS eq d m=true<;>simp[h]
theorem aCf (d:Array Nat)(m:Nat)(h: ∀j,j<m->mS eq d j=true):mT eq d m=(List.range m).map (d[·]!):=by
 unfold mT;rw[List.filter_eq_self.2 (fun j hj=>h j (aJg.1 hj))]
theorem aJi (d:Array Nat)(h: ∀j,j<d.size->mS eq d j=true):mT eq d d.size=d.toList:=by
 rw[aCf eq d _ h];exact range_map_get d
structure tJ (d:Array Nat) (m k:Nat) (dk:Array Nat):Prop where
 size:dk.size=d.size
 len:(mT eq d m).length=k
 lt:k<m
 low: ∀j,j<k->(mT eq d m)[j]? =some dk[j]!
 high: ∀j,k<=j->dk[j]! =d[j]!
variable {eq}
theorem tJ.start {d:Array Nat}{k0:Nat}(hall: ∀j,j<k0->mS eq d j=true)(hdup:mS eq d k0=false):tJ eq d (k0+1) k0 d where
 size:=rfl
 len:=by rw[oE,hdup,aCf eq d k0 hall];simp
 lt:=Nat.lt_succ_self _
 low:=fun j hj=>by rw[oE,hdup,aCf eq d k0 hall];simp[hj]
 high:=fun _ _=>rfl
theorem tJ.keep {d dk:Array Nat}{m k:Nat}(h:tJ eq d m k dk)(hm:m<d.size)(hk:mS eq d m=true):tJ eq d (m+1) (k+1) (dk.setIfInBounds k d[m]!) where
 size:=by simp[h.size]
 len:=by rw[oE,hk];simp[h.len]
 lt:=by have:=h.lt;omega
 low:=fun j hj=>by
  rw[oE,hk,if_pos rfl];by_cases e:j=k
  ·subst e;rw[aGZ (by rw[h.len];exact aKU _),h.len,Nat.sub_self,Go.Sort.getElem!_set_same dk j _ (by have:=h.lt;have:=h.size;omega)];rfl
  rw[aKn (by rw[h.len];omega),h.low j (by omega),Go.Sort.getElem!_set_other dk k j _ e]
 high:=fun j hj=>by rw[Go.Sort.getElem!_set_other dk k j _ (by omega),h.high j (by omega)]
theorem tJ.skip {d dk:Array Nat}{m k:Nat}(h:tJ eq d m k dk)(hk:mS eq d m=false):tJ eq d (m+1) k dk where
 size:=h.size
 len:=by rw[oE,hk];simpa using h.len
 lt:=by have:=h.lt;omega
 low:=fun j hj=>by rw[oE,hk];simpa using h.low j hj
 high:=h.high
theorem tJ.done {d dk:Array Nat}{k:Nat}(h:tJ eq d d.size k dk)(z:Nat):
 lay dk k (List.replicate (d.size - k) z)=(mT eq d d.size++List.replicate (d.size - k) z).toArray:=by
 have hk:=h.lt;have hs:=h.size;apply Array.ext_getElem?;intro j;rw[lay_get? _ _ _ _ (by simp;omega),show (mT eq d d.size++List.replicate (d.size - k) z).toArray[j]? =(mT eq d d.size++List.replicate (d.size - k) z)[j]? from List.getElem?_toArray];simp only[aPD];by_cases c:j<k
 ·rw[if_neg (by omega),aKn (by rw[h.len];exact c),h.low j c,getElem!_pos dk j (by omega),Array.getElem?_eq_getElem]
 rw[aGZ (by rw[h.len];omega),h.len];by_cases c2:j<d.size
 ·rw[if_pos (by omega)]
 rw[if_neg (by omega),Array.getElem?_eq_none (by omega),List.getElem?_eq_none (by simp;omega)]
end
set_option maxHeartbeats 4000000 in
set_option maxRecDepth 1000000 in
theorem aJj (enc:Nat->Value)(eq:Nat->Nat->Bool)(hO:OneCell enc)(zr:Nat)(hz:enc zr= .slice none 0 0)(blk off cap:Nat)(d:Array Nat)(w:World)(hH:Go.Sort.Holds enc w blk off d)(hsz:d.size<=9223372036854775807)(hcap:d.size<=cap)
 (hcmp: ∀(dk:Array Nat) (q:Nat) (x y:Nat),dk.size=d.size-> ∀n,Calls Tryz.prog 188 #[enc x,enc y] ((Go.Sort.putRow enc (Go.Sort.ahead w q) blk off dk).drewN n) fun e w' =>e= .returned (.bool (eq x y))/\ ∃qq,w' =((Go.Sort.putRow enc (Go.Sort.ahead w q) blk off dk).drewN n).drewN qq):
 Calls Tryz.prog 187 #[.slice (some ⟨blk,off,none⟩) d.size cap,.func (.func 188) #[] #[]] w fun e w' =>e= .returned (.slice (some ⟨blk,off,none⟩) (mT eq d d.size).length cap)/\ ∃q,w' =Go.Sort.putRow enc (Go.Sort.ahead w q) blk off (mT eq d d.size++List.replicate (d.size - (mT eq d d.size).length) zr).toArray:=by
 have mixed:=aII;have hcl0:=hO.cells;simp only[Value.cells] at hcl0;have hst:=hO.store Tryz.prog
 have same: ∀q,(∀j,j<d.size->mS eq d j=true)->(mT eq d d.size).length=d.size/\w.drewN q=Go.Sort.putRow enc (Go.Sort.ahead w q) blk off (mT eq d d.size++List.replicate (d.size - (mT eq d d.size).length) zr).toArray:=by
  intro q hall;have e:mT eq d d.size=d.toList:=aJi eq d hall;rw[e];refine⟨by simp,?_⟩;simp only[aRB,Nat.sub_self,List.replicate_zero,aOt,Array.toArray_toList];exact(Go.Sort.putRow_self enc (Go.Sort.ahead w q) blk off d (Go.Sort.holds_ahead enc w q blk off d hH)).symm
 have HS:Aside _:=same;have HC:Aside _:=hcmp
 clear same hcmp
 by_cases h2:d.size<2
 ·have HH:Aside (Go.Sort.Holds enc w blk off d):=hH
  clear hH
  go_enter Tryz.func187,Tryz.ntmps187
  go_wp2
  go_ret
  obtain⟨e1,e2⟩:=HS.out 0 (fun j hj=>aHR eq d j (by omega));exact⟨by rw[e1];rfl,0,e2⟩
 go_enter Tryz.func187,Tryz.ntmps187
 go_wp2
 go_loopg [5] d.size (fun g s3 wr=> ∃k q:Nat,1<=k/\k<=d.size/\d.size - k<=g/\s3= .int .i64 k/\wr=w.drewN q/\ ∀j,j<k->mS eq d j=true)
 case atStart=>exact⟨1,0,aKU _,by omega,by omega,rfl,rfl,aHR eq d⟩
 case round=>
  obtain⟨k,q,hk1,hk,hg,rfl,rfl,hall⟩:=hrel;by_cases hlt:k<d.size
  ·obtain⟨c1,f1⟩:=hH k hlt;obtain⟨c0,f0⟩:=hH (k - 1) (by omega);have A:Aside (∀j,j<k->mS eq d j=true):=hall;have HH:Aside (Go.Sort.Holds enc w blk off d):=hH;have hc0:=HC.out d q d[k]! d[k - 1]! rfl;have hself:Go.Sort.putRow enc (Go.Sort.ahead w q) blk off d=w.drewN q:=Go.Sort.putRow_self enc (Go.Sort.ahead w q) blk off d (Go.Sort.holds_ahead enc w q blk off d hH);rw[hself] at hc0
   clear hall hH hself
   generalize hx:d[k]! =x at c1 hc0;generalize hy:d[k - 1]! =y at c0 hc0;have B:Aside (d[k]! =x/\d[k - 1]! =y):=⟨hx,hy⟩
   clear hx hy
   obtain⟨kp,rfl⟩: ∃kp,k=kp+1:=⟨k - 1,by omega⟩;simp only[Nat.add_sub_cancel] at c0;have hwp:IntKind.i64.wrap (kp:Int)=(kp:Int):=by rw[IntKind.wrap_i64];omega
   have kz:(kp:Int)+1<(d.size:Int):=by omega
   have kz1:(kp:Int)<(d.size:Int):=by omega
   have p0:(0:Int)<=(kp:Int)+1:=by omega
   have e0:((kp:Int)+1).toNat=kp+1:=by omega
   have c1' :(w.drewN q).cell? ⟨blk,off+(kp+1),none⟩=some (enc x):=c1;have c0' :(w.drewN q).cell? ⟨blk,off+kp,none⟩=some (enc y):=c0
   clear c1 c0
   generalize hwq:w.drewN q=wq at c1' c0' hc0 ⊢;have WQ:Hid (w.drewN q=wq):=hwq
   clear hwq
   cases hdup:eq x y with
   | true=>
     rw[hdup] at hc0
     go_wp2_with fail
     go_quiet ((first|(go_at_call 188;exact Calls.quiet_of (hc0 _))|(go_at_fn 188;exact Calls.quiet_of (hc0 _))))
     go_wp2
     have W1:Hid (wq.drewN nq=Go.Sort.putRow enc (Go.Sort.ahead w (q+nq)) blk off d):=by
      show _=_;rw[<-WQ.out,World.drewN_drewN];exact(Go.Sort.putRow_self enc (Go.Sort.ahead w (q+nq)) blk off d (Go.Sort.holds_ahead enc w (q+nq) blk off d HH.out)).symm
     clear c1' c0' f0 f1 hc0
     go_loopg [5,7] d.size (fun g s3 s5 wr=> ∃(kk k2 q2:Nat) (dk:Array Nat),s3= .int .i64 kk/\s5= .int .i64 ((k2:Int)+1)/\kp+1+(k2+1)<=d.size/\d.size - (kp+1+(k2+1))<=g/\wr=Go.Sort.putRow enc (Go.Sort.ahead w q2) blk off dk/\tJ eq d (kp+1+(k2+1)) kk dk)
     case atStart=>exact⟨kp+1,0,q+nq,d,by go_num,rfl,by omega,by omega,W1.out,tJ.start A.out (aHT eq (by omega) (by rw[B.out.1,Nat.add_sub_cancel,show d[kp]! =y from B.out.2];exact hdup))⟩
     case round=>
      obtain⟨kk,k2,q2,dk,rfl,rfl,hle,hg2,hwr,hI⟩:=hrel;have hkk:=hI.lt;have hds:=hI.size;have hHk:Go.Sort.Holds enc wr blk off dk:=by rw[hwr];exact Go.Sort.holds_putRow enc _ blk off d dk (Go.Sort.holds_ahead enc w q2 blk off d HH.out) hds
      have W2:Aside (wr=Go.Sort.putRow enc (Go.Sort.ahead w q2) blk off dk):=hwr;have I2:Aside (tJ eq d (kp+1+(k2+1)) kk dk):=hI;by_cases hlt2:kp+1+(k2+1)<d.size
      ·obtain⟨cm,_⟩:=hHk (kp+1+(k2+1)) (by omega);obtain⟨cp,_⟩:=hHk (kp+1+k2) (by omega);obtain⟨ck,fk⟩:=hHk kk (by omega);rw[hI.high (kp+1+(k2+1)) (by omega),show off+(kp+1+(k2+1))=off+(kp+1)+(k2+1) by omega] at cm;rw[hI.high (kp+1+k2) (by omega),show off+(kp+1+k2)=off+(kp+1)+k2 by omega] at cp;have hc1:=HC.out dk q2 d[kp+1+(k2+1)]! d[kp+1+k2]! hds;rw[<-hwr] at hc1
       clear hHk hI hwr
       generalize hu:d[kp+1+(k2+1)]! =u at cm hc1;generalize hv:d[kp+1+k2]! =v at cp hc1;generalize dk[kk]! =old at ck;have C:Aside (d[kp+1+(k2+1)]! =u/\d[kp+1+k2]! =v):=⟨hu,hv⟩
       clear hu hv
       have hwp2:IntKind.i64.wrap (k2:Int)=(k2:Int):=by rw[IntKind.wrap_i64];omega
       have jz:(k2:Int)+1<(d.size:Int) - ((kp:Int)+1):=by omega
       have jz1:(k2:Int)<(d.size:Int) - ((kp:Int)+1):=by omega
       have j0:(0:Int)<=(k2:Int)+1:=by omega
       have je:((k2:Int)+1).toNat=k2+1:=by omega
       cases huv:eq u v with
       | true=>
         rw[huv] at hc1
         go_wp2_with fail
         go_quiet ((first|(go_at_call 188;exact Calls.quiet_of (hc1 _))|(go_at_fn 188;exact Calls.quiet_of (hc1 _))))
         go_wp2
         go_roundg (d.size - (kp+1+(k2+1+1)))
         case measure=>omega
         case rel=>exact⟨kk,k2+1,q2+nq,dk,rfl,by go_num,by omega,by omega,by rw[W2.out];exact Go.Proofs.putRow_drewN _ _ _ _ _ _ _,I2.out.skip (aHT eq (by omega) (by rw[C.out.1,show kp+1+(k2+1) - 1=kp+1+k2 by omega,C.out.2];exact huv))⟩
       | false=>
         rw[huv] at hc1
         go_wp2_with fail
         go_quiet ((first|(go_at_call 188;exact Calls.quiet_of (hc1 _))|(go_at_fn 188;exact Calls.quiet_of (hc1 _))))
         go_wp2
         go_roundg (d.size - (kp+1+(k2+1+1)))
         case measure=>omega
         case rel=>
          refine⟨kk+1,k2+1,q2+nq,dk.setIfInBounds kk u,by go_num,by go_num,by omega,by omega,?_,?_⟩
          ·rw[W2.out,show (Go.Sort.putRow enc (Go.Sort.ahead w q2) blk off dk).drewN nq=Go.Sort.putRow enc (Go.Sort.ahead w (q2+nq)) blk off dk from Go.Proofs.putRow_drewN _ _ _ _ _ _ _,Go.Sort.putRow_set enc _ blk off dk kk u (by omega)]
          have:=I2.out.keep hlt2 (aHS eq (by rw[C.out.1,show kp+1+(k2+1) - 1=kp+1+k2 by omega,C.out.2];exact huv))
          rwa [C.out.1] at this
      have hend:kp+1+(k2+1)=d.size:=by omega
      have hcl: ∀ty,(Builtin.clear_ #[86] ty #[.slice (some ⟨blk,off+kk,none⟩) (d.size - kk) (cap - kk)]).run Tryz.prog wr= .ok (.tuple #[]) (wr.setCells blk (off+kk) (List.replicate (d.size - kk) (enc zr))):=
       fun ty=>Lib.run_clear_slice wr _ _ ty _ Tryz.underlying86 (fun w=>by rw[hz];rfl) (hO.cells zr) (hO zr) blk (off+kk) _ _ (by omega) (fun j hj=>by rw[show off+kk+j=off+(kk+j) by omega,(hHk (kk+j) (by omega)).1];rfl) (fun j hj=>by rw[show off+kk+j=off+(kk+j) by omega];exact(hHk (kk+j) (by omega)).2)
      clear hHk hI hwr
      go_wp2
      go_ret
      have hI:=I2.out;rw[hend] at hI;refine⟨by rw[hI.len];rfl,q2,?_⟩;rw[hI.len,<-hI.done zr,<-putRow_setCells enc _ blk off _ dk kk (by simp;omega),<-W2.out,aK6,hz]
   | false=>
     rw[hdup] at hc0
     go_wp2_with fail
     go_quiet ((first|(go_at_call 188;exact Calls.quiet_of (hc0 _))|(go_at_fn 188;exact Calls.quiet_of (hc0 _))))
     go_wp2
     go_roundg (d.size - (kp+1+1))
     case measure=>omega
     case rel=>
      refine⟨kp+1+1,q+nq,by omega,by omega,aKU _,by go_num,by rw[<-WQ.out,World.drewN_drewN],fun j hj=>?_⟩;by_cases e:j=kp+1
      ·subst e;exact aHS eq (by rw[B.out.1,B.out.2];exact hdup)
      exact A.out j (by omega)
  obtain rfl:k=d.size:=by omega
  have HH:Aside (Go.Sort.Holds enc w blk off d):=hH
  clear hH
  go_wp2
  go_ret
  obtain⟨e1,e2⟩:=HS.out q hall;exact⟨by rw[e1];rfl,q,e2⟩
end Go.Proofs.YtafmaholhcgakaaGreat
namespace Go.Proofs.YtafmaholhcgakaaGreat
open Go.ChangeShapes Go.WideShapes Go.ChangeAt Go.RowKit Go.Shelf Go.Lib
set_option linter.unusedVariables false
set_option linter.unusedSimpArgs false
def aIL (l:List (List Int))(i j:Nat):Bool:=decide (l.getD i []=l.getD j [])
def nH (l:List (List Int)):List Nat:=(List.range l.length).filter fun j=>decide (j=0) || !aIL l j (j - 1)
def fG (l:List (List Int)):List (List Int):=(nH l).map fun i=>l.getD i []
theorem aNx (l:List (List Int)):mT (aIL l) (List.range l.length).toArray l.length=nH l:=by
 unfold mT nH;have e: ∀j,j<l.length->(List.range l.length).toArray[j]! =j:=fun j hj=>by simp[hj]
 have e1:(List.range l.length).filter (mS (aIL l) (List.range l.length).toArray)=(List.range l.length).filter fun j=>decide (j=0) || !aIL l j (j - 1):=by
  apply List.filter_congr;intro j hj;have hj:=aJg.1 hj;unfold mS;rw[e j hj,e (j - 1) (by omega)]
 rw[e1]
 conv=>rhs;rw[<-List.map_id (List.filter _ _)]
 apply List.map_congr_left;intro j hj;exact e j (aJg.1 (aPF.1 hj).1)
theorem aQJ {α:Type}{l m:List (List α)}(h:List.Sublist l m):List.Sublist l.flatten m.flatten:=by
 induction h with
 | slnil=>exact List.Sublist.refl _
 | cons a _ ih=>rw[aHH];exact ih.trans (List.sublist_append_right _ _)
 | cons_cons a _ ih=>rw[aHH,aHH];exact(List.Sublist.refl a).append ih
theorem aMi {l:List (List Int)}{i:Nat}(h:i∈nH l):i<l.length:=aJg.1 (aPF.1 h).1
set_option maxHeartbeats 2000000 in
theorem aJk (l:List (List Int))(hl:l.length<4611686018427387904):pN Tryz.prog 187 [.own 0,.fn 188 []] [(0,.arr 34 1 true (l.map aD))] (.own 1) [(1,.arr 34 1 true ((fG l).map aD))]:=by
 refine⟨by kernel_rfl,by simp,fun A φ w vs hI hm=>?_⟩;obtain⟨pl,hp,css,Fs,q1,q2,q3,q4⟩:=hI.dom 0 _ rfl;unfold aM at hm;obtain⟨v,us,e1,m1,hm⟩:=hm;unfold aM at hm;obtain⟨v2,us2,e2,m2,hm⟩:=hm;unfold aM at hm;unfold aC at m1 m2;obtain⟨vs2,ev2,m3⟩:=m2;unfold aM at m3;have hv:=m1 pl hp;have e3:vs2= #[]:=by apply Array.ext';simpa using m3
 have ev:vs= #[pl.val,.func (.func 188) #[] #[]]:=by apply Array.ext';rw[e1,e2,hm,hv,ev2,e3]
 rw[ev];have hnd:=hI.nodup 0 pl hp;have hge:=hI.ge 0 pl hp;have hFe:pl.F=pl.val.ownBlock.toList++Fs.flatten:=by unfold Pl.F;rw[q2,q3]
 have hfoot: ∀b∈pl.F,aHz φ b:=fun b hb=>⟨0,pl,trivial,hp,hb⟩
 have h0: ∀h pl',φ h=some pl' ->h=0:=fun h pl' e' =>by
  cases hr:aY [(0,Rs.arr 34 1 true (l.map aD))] h with
  | none=>rw[hI.non h hr] at e';cases e'
  | some r=>
    simp only[aY] at hr;split at hr
    ·assumption
    cases hr
 obtain⟨lc,lF⟩:=zL q4;rw[aAJ] at lc lF
 have hrow: ∀i,i<l.length-> ∃a cap F,css[i]? =some [.slice a (l.getD i []).length cap]/\Fs[i]? =some F/\aAb w a (l.getD i [])/\(∀x∈a,x.block∈F)/\(l.getD i []).length<=9223372036854775807/\cN w (aD (l.getD i [])) [.slice a (l.getD i []).length cap] F:=fun i hi=>by
  obtain⟨r,hr⟩:=cP hi;have hg:l.getD i []=r:=by simp[aEE,hr]
  obtain⟨c,F,g1,g2,_,g4⟩:=xR q4 (show (l.map aD)[i]? =some (aD r) by rw[aOz,hr];rfl);obtain⟨a,cap,rfl,k1,k2,k3⟩:=aTe g4;rw[hg];exact⟨a,cap,F,g1,g2,k1,k2,k3,g4⟩
 have hone: ∀d∈css,d.length=1:=fun d hd=>by
  obtain⟨i,hi⟩:=List.getElem?_of_mem hd;obtain⟨a,cap,F,g1,_⟩:=hrow i (by have:=(aCx.1 hi).1;omega);rw[hi] at g1;injection g1 with g1
  rw[g1];rfl
 let enc:Nat->Value:=fun i=>css.flatten.getD i (.slice none 0 0)
 have henc: ∀i,∃a cap,enc i= .slice a (l.getD i []).length cap/\aAb w a (l.getD i [])/\(∀x∈a,x.block∈Fs.flatten)/\(l.getD i []).length<=9223372036854775807:=fun i=>by
  by_cases hi:i<l.length
  ·obtain⟨a,cap,F,g1,g2,g3,g4,g5,_⟩:=hrow i hi;refine⟨a,cap,?_,g3,fun x hx=>List.mem_flatten.2 ⟨F,aAx g2,g4 x hx⟩,g5⟩;show css.flatten.getD i _=_;rw[aEE,pE css i _ hone g1];rfl
  have hg:l.getD i []= []:=by rw[aEE,List.getElem?_eq_none (by omega)];rfl
  rw[hg];refine⟨none,0,?_,fun j x hx=>by simp at hx,by simp,by simp⟩;show css.flatten.getD i _=_;rw[aEE,List.getElem?_eq_none (by rw[aBc css hone];omega)];rfl
 have h1:φ 1=none:=hI.non 1 rfl
 have hend: ∀(v' :Value) (w' :World),lP pl.F w w' ->(∀F∈Fs,iO F w w')->(∀b∈v'.ownBlock,b∈pl.val.ownBlock)->w'.ownsRow 0 34 1 v' (nH l).length ((nH l).map enc)->
  ∃v K φ',Ending.returned v' = .returned v/\aNk A φ w [(1,.arr 34 1 true ((fG l).map aD))] K φ' w' /\aC K φ' w' (.own 1) v:=by
  intro v' w' hon hkeep hvb howns
  have hFr:(List.range l.length).map (fun i=>Fs.getD i [])=Fs:=by
   apply List.ext_getElem?;intro i;by_cases hi:i<l.length
   ·simp[hi,show i<Fs.length by omega]
   simp[hi,show ¬i<Fs.length by omega]
  have hsub:List.Sublist ((nH l).map fun i=>Fs.getD i []).flatten Fs.flatten:=by
   have:List.Sublist ((nH l).map fun i=>Fs.getD i []) ((List.range l.length).map fun i=>Fs.getD i []):=List.filter_sublist.map _;rw[hFr] at this;exact aQJ this
  let pl' :Pl:=⟨v',v'.ownBlock.toList,((nH l).map fun i=>Fs.getD i []).flatten⟩
  have hmem: ∀g,g∈pl'.F->g∈pl.F:=fun g hg=>by
   rw[hFe];simp only[pl',Pl.F,aDy,Option.mem_toList] at hg ⊢;rcases hg with h | h
   ·exact .inl (hvb g h)
   exact .inr (List.Sublist.mem h hsub)
  have hnd' :pl'.F.Nodup:=by
   rw[hFe] at hnd;have hn:=aKo.1 hnd;simp only[pl',Pl.F];refine aKo.2 ⟨by cases v'.ownBlock<;>simp,hsub.nodup hn.2.1,fun x hx y hy=>?_⟩;exact hn.2.2 x (by rw[Option.mem_toList] at hx ⊢;exact hvb x hx) y (List.Sublist.mem hy hsub)
  refine⟨_,A,fun h=>if h=1 then some pl' else none,rfl,⟨⟨hon.os,hon.tape,hon.output,hon.size,fun b hb hn=>hon.block b hb (fun hm=>hn (hfoot b hm))⟩,fun _ h=>h,fun b hb=>⟨aKV (hI.lt b hb) hon.size,.inl hb⟩,fun b hb h pl1 e' hm' =>?_,fun h r hr=>?_,fun h hr=>?_,fun h h' pl1 pl2 hne ea eb=>?_,fun h pl1 e' =>?_,fun h pl1 e' g hg=>?_,fun h pl1 pl0 e' e0=>?_⟩,?_⟩
  ·split at e'
   ·injection e' with e';subst e'
    exact hI.out b hb 0 pl hp (hmem b hm')
   cases e'
  ·simp only[aY] at hr;split at hr
   ·rename_i eh;subst eh;injection hr with hr
    subst hr;refine⟨pl',by simp,(nH l).map (fun i=>[enc i]),(nH l).map (fun i=>Fs.getD i []),?_,rfl,rfl,?_⟩
    ·rw[aFB enc (nH l),aAJ,fG,aAJ];exact howns
    rw[fG,List.map_map];refine aFA (fun i=>aD (l.getD i [])) (fun i=>[enc i]) (fun i=>Fs.getD i []) fun i hi=>⟨rfl,?_⟩;obtain⟨a,cap,F,g1,g2,g3,g4,g5,g6⟩:=hrow i (aMi hi)
    have ee:enc i= .slice a (l.getD i []).length cap:=by
     show css.flatten.getD i _=_;rw[aEE,pE css i _ hone g1];rfl
    have eF:Fs.getD i []=F:=by simp[aEE,g2]
    rw[ee,eF];exact cN.kept _ _ _ (hkeep F (aAx g2)) g6
   cases hr
  ·simp only[aY] at hr;split at hr
   ·cases hr
   rename_i eh;exact if_neg eh
  ·split at ea
   ·split at eb
    ·rename_i x y;exact absurd (x.trans y.symm) hne
    cases eb
   cases ea
  ·split at e'
   ·injection e' with e';subst e';exact hnd'
   cases e'
  ·split at e'
   ·injection e' with e';subst e'
    have:=hmem g hg;exact⟨.inr (hfoot g this),aKV (hge g this) hon.size⟩
   cases e'
  ·split at e'
   ·rename_i eh;subst eh;rw[h1] at e0;cases e0
   cases e'
  unfold aC;intro pl1 e';simp at e';subst e';rfl
 rw[aAJ] at q1;rcases q1.2 with ⟨hvn,hz⟩ | ⟨g,cap,cur,hvv,hg0,hb,hn,hcap,hsz,htk⟩
 ·have hz' :l= []:=aFh hz;subst hz';rw[hvn]
  have hcon:Calls Tryz.prog 187 #[.slice none 0 0,.func (.func 188) #[] #[]] w fun e w' =>e= .returned (.slice none 0 0)/\w' =w:=by
   clear hend
   go_enter Tryz.func187,Tryz.ntmps187
   go_wp2
   go_ret
   exact⟨rfl,rfl⟩
  refine hcon.mono ?_;rintro en w' ⟨rfl,rfl⟩;exact hend (.slice none 0 0) w' (lP.refl _ _) (fun F hF g hg=>rfl) (fun b hb=>by cases hb) ⟨by simp[nH],.inl ⟨rfl,by simp[nH]⟩⟩
 have hgF:g ∉ Fs.flatten:=fun hm=>by
  rw[hFe,hvv] at hnd;simp only[Value.ownBlock,Option.toList_some,List.cons_append,aOu,List.nodup_cons] at hnd;exact hnd.1 hm
 have hgs:g<w.heap.size:=(Array.getElem?_eq_some_iff.1 hb).1;have hin: ∀b∈Fs.flatten,b<w.heap.size/\b≠g:=fun b hb' =>⟨hge b (by rw[hFe];exact aDa _ hb'),fun e=>hgF (e▸hb')⟩;have hw0: ∀(dk:Array Nat) (q:Nat),Go.Sort.putRow enc (Go.Sort.ahead w q) g 0 dk=sortWorld enc w g 0 q dk #[]:=fun dk q=>by unfold sortWorld;rw[Go.Sort.grow_empty]
 have hcmp: ∀(dk:Array Nat) (q:Nat) (x y:Nat),dk.size=(List.range l.length).toArray.size-> ∀n,Calls Tryz.prog 188 #[enc x,enc y] ((Go.Sort.putRow enc (Go.Sort.ahead w q) g 0 dk).drewN n) fun e w' =>e= .returned (.bool (aIL l x y))/\ ∃qq,w' =((Go.Sort.putRow enc (Go.Sort.ahead w q) g 0 dk).drewN n).drewN qq:=fun dk q x y _ n=>by
  obtain⟨a1,c1,ex,r1,k1,b1⟩:=henc x;obtain⟨a2,c2,ey,r2,k2,b2⟩:=henc y;rw[ex,ey]
  have hk: ∀b,b∈Fs.flatten->((Go.Sort.putRow enc (Go.Sort.ahead w q) g 0 dk).drewN n).heap[b]? =w.heap[b]? :=fun b hb' =>by
   show (Go.Sort.putRow enc (Go.Sort.ahead w q) g 0 dk).heap[b]? =_;rw[hw0];exact rD dk (hin b hb').1 (hin b hb').2
  exact aSq a1 a2 c1 c2 _ _ _ b1 b2 (zM r1 fun q hq=>hk _ (k1 q hq)) (zM r2 fun q hq=>hk _ (k2 q hq))
 have htk' :cur.toList.take l.length=css.flatten:=by rw[Nat.mul_one] at htk;exact htk
 have hH:Go.Sort.Holds enc w g 0 (List.range l.length).toArray:=fun j hj=>by
  have hj' :j<l.length:=by simpa using hj
  refine⟨?_,by simp[World.frozen?,hb]⟩;have h1:(cur.toList.take l.length)[j]? =css.flatten[j]? :=by rw[htk']
  rw[List.getElem?_take_of_lt hj'] at h1;simp only[World.cell?,hb,Nat.zero_add,Option.isSome_none,Bool.false_eq_true,if_false];rw[<-Array.getElem?_toList,h1];obtain⟨a,cap',F,g1,_⟩:=hrow j hj';have h2:=pE css j _ hone g1
  have ee:enc j= .slice a (l.getD j []).length cap' :=by
   show css.flatten.getD j _=_;rw[aEE,h2];rfl
  have ej:(List.range l.length).toArray[j]! =j:=by simp[hj']
  rw[h2,ej,ee]
 have hone1:OneCell enc:=fun x=>by
  obtain⟨a,c,ex,_⟩:=henc x;rw[ex];rfl
 have hzr:enc l.length= .slice none 0 0:=by
  show css.flatten.getD l.length _=_;rw[aEE,List.getElem?_eq_none (by rw[aBc css hone];omega)];rfl
 have hszd:(List.range l.length).toArray.size=l.length:=by simp
 have hcon:=aJj enc (aIL l) hone1 l.length hzr g 0 cap (List.range l.length).toArray w hH (by rw[hszd];omega) (by rw[hszd];exact hn) hcmp;rw[hszd,aNx] at hcon;rw[hvv];refine hcon.mono ?_;rintro en w' ⟨rfl,q,rfl⟩
 have hle:(nH l).length<=l.length:=by
  have:=(List.filter_sublist (l:=List.range l.length) (p:=fun j=>decide (j=0) || !aIL l j (j - 1))).length_le;simpa [nH] using this
 have hkb: ∀k,k<w.heap.size->k≠g->(Go.Sort.putRow enc (Go.Sort.ahead w q) g 0 (nH l++List.replicate (l.length - (nH l).length) l.length).toArray).heap[k]? =w.heap[k]? :=fun k hk hne=>by rw[hw0];exact rD _ hk hne
 refine hend _ _ ⟨rfl,rfl,rfl,by simp,fun k hk hne=>hkb k hk (fun e=>hne (by rw[hFe,hvv,e];simp[Value.ownBlock]))⟩
  (fun F hF b hb' =>hkb b (hin b (List.mem_flatten.2 ⟨F,hF,hb'⟩)).1 (hin b (List.mem_flatten.2 ⟨F,hF,hb'⟩)).2)
  (fun b hb' =>by rw[hvv];exact hb') ?_
 rw[hw0];refine⟨by simp,.inr ⟨g,cap,_,rfl,hg0,aHQ _ hb,by omega,hcap,by simp[Go.Sort.putCells,hsz],?_⟩⟩;rw[Nat.mul_one];have:=aJh enc cur (nH l++List.replicate (l.length - (nH l).length) l.length) (by simp;omega);have h3:=congrArg (List.take (nH l).length) this;rw[List.take_take,aGO,List.take_append_of_le_length (by simp)] at h3;rw[show min (nH l).length (nH l++List.replicate (l.length - (nH l).length) l.length).length=(nH l).length by simp] at h3;rw[h3,aCy (by simp)]
end Go.Proofs.YtafmaholhcgakaaGreat
namespace Go.Proofs.YtafmaholhcgakaaGreat
open Go.ChangeShapes Go.WideShapes Go.ChangeAt Go.RowKit
set_option linter.unusedVariables false
set_option linter.unusedSimpArgs false
set_option maxRecDepth 100000
set_option maxHeartbeats 4000000
abbrev sV (l:List (List Int)):AV × List (Nat × Rs):=(.own 0,[(0,.arr 34 1 true ((fG (cQ l)).map aD))])
abbrev aAR (l:List (List Int)):Prop:=Cn 143 [.one (.sl 34 1 (l.map aD))] (sV l).1 (sV l).2
theorem aJl (l:List (List Int))(hc:cV l<=1048576):aAR l:=by
 refine cq Tryz.func143 (cH (aHP l)<| .callx [.own 0,.fn 186 []] [(0,.arr 34 1 true (l.map aD))] [(0,500)] (.tup []) [(0,.arr 34 1 true ((cQ l).map aD))]<| .callx [.own 0,.fn 188 []] [(0,.arr 34 1 true ((cQ l).map aD))] [(0,500)] (.own 1) [(1,.arr 34 1 true ((fG (cQ l)).map aD))]<| .fin [(0,901)]) (p:=Lx (l.map aD)<| aJd l/\pN Tryz.prog 185 [.own 0,.fn 186 []] [(0,.arr 34 1 true (l.map aD))] (.tup []) [(0,.arr 34 1 true ((cQ l).map aD))]/\l.map aD=l.map aD/\pN Tryz.prog 187 [.own 0,.fn 188 []] [(0,.arr 34 1 true ((cQ l).map aD))] (.own 1) [(1,.arr 34 1 true ((fG (cQ l)).map aD))]/\(cQ l).map aD=(cQ l).map aD/\(fG (cQ l)).map aD=(fG (cQ l)).map aD/\True) (by kernel_rfl) ?_;refine lx fun n0=>?_;have hlen:=iG l;refine⟨cpR _ (by omega),aQI l (by omega),rfl,aJk (cQ l) (by (rw[aCe];omega)),rfl,?_⟩;exact⟨rfl,trivial⟩
def kR (t:aP)(cols:List Int):List (List Int):=t.rows.map fun r=>(gB r cols).1
def iM (all:List (List Int))(g:List Int):Int:=(((all.filter fun x=>decide (g=x)).length:Nat):Int)
def aQK (t:aP)(cols:List Int):List (List Int):=fG (cQ (kR t cols))
def aQL (t:aP)(cols:List Int):List Int:=(aQK t cols).map (iM (kR t cols))
def gY (t:aP)(cols:List Int):List (List Int) × List Int:=if (aR t&&dI (t.arity - 1) cols)=true then (aQK t cols,aQL t cols) else ([],[])
theorem tK {t:aP}{cols:List Int}(h:(aR t&&dI (t.arity - 1) cols)=true):gY t cols=(aQK t cols,aQL t cols):=by rw[gY,if_pos h]
theorem aDv {t:aP}{cols:List Int}(h:(aR t&&dI (t.arity - 1) cols)=false):gY t cols=([],[]):=by rw[gY,if_neg (by rw[h];decide)]
theorem aMj {all:List (List Int)}{g x:List Int}{j:Nat}(hx:all[j]? =some x)(h:g=x):iM (all.take (j+1)) g=iM (all.take j) g+1:=by
 subst h;rw[iM,iM,bS hx,List.filter_append];simp
theorem aQM {all:List (List Int)}{g x:List Int}{j:Nat}(hx:all[j]? =some x)(h: ¬g=x):iM (all.take (j+1)) g=iM (all.take j) g:=by
 rw[iM,iM,bS hx,List.filter_append];simp[h]
theorem aQN (all:List (List Int))(g:List Int):0<=iM all g/\iM all g<=all.length:=by
 have:=List.length_filter_le (fun x=>decide (g=x)) all;unfold iM;omega
theorem aJm {b:Int}{cols:List Int}(h:dI b cols=true): ∀i,i<cols.length->(i:Int)<=cols.getD i 0/\cols.getD i 0<=b
 | 0,hi=>by
   have:=aDP.1 h 0 (aJg.2 hi);simp only[iX,aAS] at this;have:=dB this.1;exact⟨by simpa using this.1,this.2⟩
 | i+1,hi=>by
   have ih:=aJm h i (by omega);have:=aDP.1 h (i+1) (aJg.2 hi);simp only[iX,aAS,Bool.or_eq_true,aLF,Nat.add_sub_cancel] at this;have h2:=dB this.1;rcases this.2 with q | q
   ·omega
   exact⟨by omega,h2.2⟩
theorem aFC {b:Int}{cols:List Int}(h:dI b cols=true)(hb:b<=2):cols.length<=3:=by
 by_cases h3:3<cols.length
 ·have:=aJm h 3 h3;omega
 omega
theorem aAd {α:Type}{ct:α->Nat}{m:Nat}: ∀{l:List α},(∀x∈l,ct x<=m)->aGS ct l<=l.length*m
 | [],_=>by simp[aGS]
 | a::l,h=>by
   have h1:=h a (by simp);have h2:=aAd (l:=l) fun x hx=>h x (by simp[hx]);simp only[aGS,aGN,List.sum_cons,aHl,Nat.add_mul,Nat.one_mul] at*;omega
theorem uP {l:List (List Int)}{m:Nat}(h: ∀r∈l,r.length<=m):cV l<=l.length+l.length*m:=by
 have h1:=aAd (ct:=gT) (m:=m) (l:=l) fun r hr=>h r hr;have h2:cV l=l.length+aGS gT l:=rfl;omega
theorem aFD {t:aP}{cols:List Int}(h:(aR t&&dI (t.arity - 1) cols)=true):(kR t cols).length<=8/\cV (kR t cols)<=32:=by
 rw[aAS] at h;have ha:=bP h.1;have hc:=aFC h.2 (by omega);have hl:(kR t cols).length=t.rows.length:=aAJ _
 have:=uP (l:=kR t cols) (m:=3) fun r hr=>by
  obtain⟨q,_,rfl⟩:=aH5.1 hr;have:=aEw q cols;omega
 omega
theorem aQO (l:List (List Int)):(fG (cQ l)).length<=l.length:=by
 rw[fG,aAJ,<-aCe l];have:=(List.filter_sublist (l:=List.range (cQ l).length) (p:=fun j=>decide (j=0) || !aIL (cQ l) j (j - 1))).length_le;rw[List.length_range] at this;exact this
theorem aUy {α:Type}{l:List α}{i:Nat}{x y:α}(h:(l.set i x)[i]? =some y):y=x:=aUw h
theorem aNy {f:List Int->Int}{l:List (List Int)}{i:Nat}(h:i<l.length):((l.take i).map f++List.replicate (l.length - i) (0:Int)).set i 0=(l.take i).map f++List.replicate (l.length - i) 0:=by
 rw[show l.length - i=(l.length - (i+1))+1 by omega,List.replicate_succ,List.set_append_right _ _ (by simp;omega)];simp[show i - min i l.length=0 by omega]
theorem aQP {f:List Int->Int}{l:List (List Int)}{i:Nat}{x:List Int}(h:l[i]? =some x):((l.take i).map f++List.replicate (l.length - i) (0:Int)).set i (f x)=(l.take (i+1)).map f++List.replicate (l.length - (i+1)) 0:=by
 have hi:i<l.length:=(aCx.1 h).1;rw[show l.length - i=(l.length - (i+1))+1 by omega,List.replicate_succ,List.set_append_right _ _ (by simp;omega),bS h];simp[show i - min i l.length=0 by omega]
theorem aLW {f:List Int->Int}{l:List (List Int)}{i:Nat}(h:i<=l.length)(h' : ¬i<l.length):(l.take i).map f++List.replicate (l.length - i) (0:Int)=l.map f:=by
 rw[show i=l.length by omega];simp
abbrev aAe (t:aP)(cols:List Int):AV × List (Nat × Rs):=(.tup [.own 0,.own 1],[(0,.arr 34 1 true ((gY t cols).1.map aD)),(1,.arr 3 1 true ((gY t cols).2.map intD))])
abbrev aFE (t:aP)(cols:List Int):Prop:=Cn 107 [.agg [.str t.name,.int .i64 t.arity,.sl 34 1 (t.rows.map aD)],.one (.sl 3 1 (cols.map intD))] (aAe t cols).1 (aAe t cols).2
theorem aQQ (t:aP)(cols:List Int)(hl:cols.length<=1048576):aFE t cols:=by
 refine cq Tryz.func107 (.call (vB (aR t)) []<| .br (.fin []) (.call (vB (dI (t.arity - 1) cols)) []<| .lit<| .lit<| .br (.fin []) (.len t.rows.length<| .loop (Nat × (List (List Int))) (Q2 Nat (List (List Int))) ([6,8,9,10,27]++rg 31 15) [2700,3800,4300,4400] (fun yy0=>[(31,vI (yy0.1:Int)),(6,.own 2700)]) (fun yy0=>[(2700,some (.arr 34 1 true (yy0.2.map aD)))]) (fun yy0=>yy0.1<=t.rows.length/\yy0.2=(t.rows.take yy0.1).map fun r=>(gB r cols).1) (fun yy0=>t.rows.length - yy0.1) (fun yy0=> .br (.elem _ aD t.rows (fun e33=>cH (rB e33 cols)<| .appx (List Int) aD yy0.2 ((gB e33 cols).1)<| .back [(2700,4400)])) (cH (sV yy0.2)<| .len ((fG (cQ yy0.2)).length)<| .mk ((fG (cQ yy0.2)).length) [.int .i64 (0:Int)] ((List.replicate ((fG (cQ yy0.2)).length) (0:Int)).map intD)<| .len ((fG (cQ yy0.2)).length)<| .loop (Nat × (List Int)) (Q2 Nat (List Int)) ([13,14,16]++rg 53 22) [5000] (fun yy1=>[(53,vI (yy1.1:Int))]) (fun yy1=>[(5000,some (.arr 3 1 true (yy1.2.map intD)))]) (fun yy1=>yy1.1<=(fG (cQ yy0.2)).length/\yy1.2=((fG (cQ yy0.2)).take yy1.1).map (iM yy0.2)++List.replicate ((fG (cQ yy0.2)).length - yy1.1) 0/\yy1.2.length=(fG (cQ yy0.2)).length) (fun yy1=>(fG (cQ yy0.2)).length - yy1.1) (fun yy1=> .br (.len ((fG (cQ yy0.2)).length)<| .elem _ aD (fG (cQ yy0.2)) (fun e57=> .len yy0.2.length<| .loop (Nat × (List Int) × Int) (Q3 Nat (List Int) Int) ([16]++rg 60 14) [5000] (fun yy2=>[(60,vI (yy2.1:Int))]) (fun yy2=>[(5000,some (.arr 3 1 true (yy2.2.1.map intD)))]) (fun yy2=>yy2.1<=yy0.2.length/\yy2.2.1=yy1.2.set yy1.1 yy2.2.2/\yy2.2.2=iM (yy0.2.take yy2.1) e57) (fun yy2=>yy0.2.length - yy2.1) (fun yy2=> .br (.len yy0.2.length<| .elem _ aD yy0.2 (fun e63=> .call (vB (decide (e57=e63))) []<| .br (.len yy2.2.1.length<| .elem _ intD yy2.2.1 (fun e70=> .len yy2.2.1.length<| .set Int intD yy2.2.1 (fun s19_6=>e70+1) (fun s19_6=> .back [(5000,5000)]))) (.back [(5000,5000)]))) (.back [(5000,5000)])))) (.fin [(0,4700),(1,5000)]))))))) (p:=Lx (t.rows.map aD)<| Lx (cols.map intD)<| rA t/\Nr (aR t) ([]=(gY t cols).1.map aD/\[]=(gY t cols).2.map intD/\True) (xP cols t.arity/\Nr (dI (t.arity - 1) cols) ([]=(gY t cols).1.map aD/\[]=(gY t cols).2.map intD/\True) (Lm aD t.rows/\((∃(k:Nat) (out:List (List Int)),0=(k:Int)/\[]=out.map aD/\k<=t.rows.length/\out=(t.rows.take k).map fun r=>(gB r cols).1)/\ ∀(k:Nat) (out:List (List Int)),(k<=t.rows.length/\out=(t.rows.take k).map fun r=>(gB r cols).1)->Br ((k:Int)<(t.rows.length:Int)) (0<=(k:Int)/\Em aD t.rows k fun e33=>uO e33 cols/\out.map aD=out.map aD/\(gB e33 cols).1.map intD=(gB e33 cols).1.map intD/\(out.length+1)*24<=140737488355328/\bW ((k:Int)+1)/\ ∃(k' :Nat) (out' :List (List Int)),((k:Int)+1)=(k' :Int)/\(out++[(gB e33 cols).1]).map aD=out'.map aD/\(k' <=t.rows.length/\out' =(t.rows.take k').map fun r=>(gB r cols).1)/\t.rows.length - k' <t.rows.length - k) (aAR out/\(Lm aD (fG (cQ out))/\((((fG (cQ out)).length:Nat):Int)=(((fG (cQ out)).length:Nat):Int)/\(((fG (cQ out)).length:Nat):Int)=(((fG (cQ out)).length:Nat):Int)/\8*((fG (cQ out)).length)<=281474976710656/\((fG (cQ out)).length)<=9223372036854775807/\List.replicate ((fG (cQ out)).length) [.int .i64 (0:Int)]=(List.replicate ((fG (cQ out)).length) (0:Int)).map intD/\(Lm aD (fG (cQ out))/\((∃(i:Nat) (c:List Int),0=(i:Int)/\(List.replicate ((fG (cQ out)).length) (0:Int)).map intD=c.map intD/\i<=(fG (cQ out)).length/\c=((fG (cQ out)).take i).map (iM out)++List.replicate ((fG (cQ out)).length - i) 0/\c.length=(fG (cQ out)).length)/\ ∀(i:Nat) (c:List Int),(i<=(fG (cQ out)).length/\c=((fG (cQ out)).take i).map (iM out)++List.replicate ((fG (cQ out)).length - i) 0/\c.length=(fG (cQ out)).length)->Br ((i:Int)<(((fG (cQ out)).length:Nat):Int)) (0<=(i:Int)/\Lm aD (fG (cQ out))/\(i:Int)<(((fG (cQ out)).length:Nat):Int)/\Em aD (fG (cQ out)) i fun e57=>Lm aD out/\((∃(j:Nat) (c2:List Int) (z:Int),0=(j:Int)/\c.map intD=c2.map intD/\j<=out.length/\c2=c.set i z/\z=iM (out.take j) e57)/\ ∀(j:Nat) (c2:List Int) (z:Int),(j<=out.length/\c2=c.set i z/\z=iM (out.take j) e57)->Br ((j:Int)<(out.length:Int)) (0<=(j:Int)/\Lm aD out/\(j:Int)<(out.length:Int)/\Em aD out j fun e63=>qG e57 e63/\Br (e57=e63) (0<=(i:Int)/\Lm intD c2/\(i:Int)<(c2.length:Int)/\Em intD c2 i fun e70=>bW (e70+1)/\(0<=(i:Int)/\Lm intD c2/\(i:Int)<(c2.length:Int)/\(c2.map intD=c2.map intD/\i<c2.length/\ ∀s19_6,c2[i]? =some s19_6->rZ (intD s19_6)=true/\0+1<=(intD s19_6).length/\(intD s19_6).take 0++[.int .i64 (e70+1)]++(intD s19_6).drop (0+1)=intD (e70+1)/\bW ((j:Int)+1)/\ ∃(j' :Nat) (c2' :List Int) (z' :Int),((j:Int)+1)=(j' :Int)/\(c2.set i (e70+1)).map intD=c2'.map intD/\(j' <=out.length/\c2' =c.set i z' /\z' =iM (out.take j') e57)/\out.length - j' <out.length - j))) (bW ((j:Int)+1)/\ ∃(j' :Nat) (c2' :List Int) (z' :Int),((j:Int)+1)=(j' :Int)/\c2.map intD=c2'.map intD/\(j' <=out.length/\c2' =c.set i z' /\z' =iM (out.take j') e57)/\out.length - j' <out.length - j)) (bW ((i:Int)+1)/\ ∃(i' :Nat) (c' :List Int),((i:Int)+1)=(i' :Int)/\c2.map intD=c'.map intD/\(i' <=(fG (cQ out)).length/\c' =((fG (cQ out)).take i').map (iM out)++List.replicate ((fG (cQ out)).length - i') 0/\c'.length=(fG (cQ out)).length)/\(fG (cQ out)).length - i' <(fG (cQ out)).length - i))) ((fG (cQ out)).map aD=(gY t cols).1.map aD/\c.map intD=(gY t cols).2.map intD/\True)))))))))) (by kernel_rfl) ?_;refine lx fun n0=>lx fun n1=>?_;refine⟨xM t,dm (fun g20=>?_) fun g20=>?_⟩
 ·have hbad:(aR t&&dI (t.arity - 1) cols)=false:=by rw[g20];rfl
  apply et2<;>((rw[aDv hbad]<;>rfl))
 ·have hT:=bP g20;refine⟨aHM _ _ (by omega),dm (fun c0=>?_) fun c0=>?_⟩
  ·have hbad:(aR t&&dI (t.arity - 1) cols)=false:=by rw[g20,c0];rfl
   apply et2<;>((rw[aDv hbad]<;>rfl))
  ·have hok:(aR t&&dI (t.arity - 1) cols)=true:=by rw[g20,c0];rfl
   obtain⟨hs1,hs2⟩:=aFD hok;refine⟨aAJ _,⟨0,([]:List (List Int)),rfl,rfl,aAU _,rfl⟩,fun k out ⟨hk,ho⟩=>?_⟩;refine dd (fun c1=>?_) fun c1=>?_
   ·refine⟨by omega,rfl,by omega,fun e33 h33=>?_⟩;refine⟨aEx _ _ (by omega),rfl,rfl,by (simp[ho];omega),⟨by omega,by omega⟩,?_⟩;exact⟨k+1,_,rfl,rfl,⟨by omega,by rw[ho,bS h33,aGO];rfl⟩,by omega⟩
   ·have hA:out=kR t cols:=by rw[ho,aCy (by omega)];rfl
    rw[<-hA] at hs1 hs2;have hd:=aQO out;refine⟨aJl out (by omega),aAJ _,rfl,rfl,by omega,by omega,by (rw[aK6];done),aAJ _,⟨0,List.replicate ((fG (cQ out)).length) (0:Int),rfl,rfl,aAU _,by simp,aPD⟩,fun i c ⟨hi,hc,hcn⟩=>?_⟩;refine dd (fun c2=>?_) fun c2=>?_
    ·refine⟨by omega,aAJ _,by omega,rfl,by omega,fun e57 h57=>?_⟩;refine⟨aAJ _,⟨0,c,0,rfl,rfl,aAU _,by rw[hc];exact(aNy (by omega)).symm,rfl⟩,fun j c2 z ⟨hj,hc2,hz⟩=>?_⟩;refine dd (fun c3=>?_) fun c3=>?_
     ·refine⟨by omega,aAJ _,by omega,rfl,by omega,fun e63 h63=>?_⟩;refine⟨aB5 _ _,dd (fun c4=>?_) fun c4=>?_⟩
      ·refine⟨by omega,aAJ _,by (rw[hc2,aFn,hcn];omega),rfl,by (rw[hc2,aFn,hcn];omega),fun e70 h70=>?_⟩;have hz70:e70=z:=by rw[hc2] at h70;exact(aUy h70)
       have hcl:=aQN (out.take j) e57;have hjl:(out.take j).length<=out.length:=by simp;omega
       refine⟨⟨by omega,by omega⟩,by omega,aAJ _,by (rw[hc2,aFn,hcn];omega),rfl,by (rw[hc2,aFn,hcn];omega),fun s19_6 hs19_6=>⟨rfl,aBI rfl,rfl,?_⟩⟩;refine⟨⟨by omega,by omega⟩,?_⟩;exact⟨j+1,_,_,rfl,rfl,⟨by omega,by rw[hc2,List.set_set,hz70],by rw[hz,aMj h63 c4]⟩,by omega⟩
      ·refine⟨⟨by omega,by omega⟩,?_⟩;exact⟨j+1,_,_,rfl,rfl,⟨by omega,hc2,by rw[hz,aQM h63 c4]⟩,by omega⟩
     ·have hj9:j=out.length:=by omega
      rw[hj9,aK7] at hz;refine⟨⟨by omega,by omega⟩,?_⟩;exact⟨i+1,_,rfl,rfl,⟨by omega,by rw[hc2,hz,hc];exact aQP h57,by rw[hc2,aFn];exact hcn⟩,by omega⟩
    ·have hC:c=aQL t cols:=by rw[hc,aLW hi (by omega),hA];rfl
     apply et2<;>(first|(rw[tK hok,hA]<;>rfl)|(rw[tK hok,hC]<;>rfl))
theorem aJn {α:Type}(f:α->Nat){x:α}: ∀{l:List α},x∈l->f x<=aGS f l
 | a::l,h=>by
   simp only[aGS,aGN,List.sum_cons];rcases aG7.1 h with q | q
   ·subst q;omega
   have:=aJn f q;simp only[aGS] at this;omega
theorem zN {l:List (List Int)}{i:Nat}{x:List Int}(h:l[i]? =some x):x.length<=cV l:=by
 have h1:cV l=l.length+aGS gT l:=rfl;have h2:x.length<=aGS gT l:=aJn gT (aAx h);omega
def pgo (row:List Int):Bool->List (List Int)->List (List Int)
 | p,[]=>if p=true then [] else [row]
 | p,x::xs=>if 0<bT x row/\p=false then row::x::pgo row true xs else x::pgo row (p || decide (bT x row=0)) xs
def kB (row:List Int)(rows:List (List Int)):List (List Int):=pgo row false rows
theorem aQR {row x:List Int}{xs:List (List Int)}(h:0<bT x row):pgo row false (x::xs)=row::x::pgo row true xs:=by rw[pgo,if_pos ⟨h,rfl⟩]
theorem aLX {row x:List Int}{xs:List (List Int)}{p:Bool}(h:bT x row=0):pgo row p (x::xs)=x::pgo row true xs:=by rw[pgo,if_neg (by omega),h];simp
theorem aQS {row x:List Int}{xs:List (List Int)}:pgo row true (x::xs)=x::pgo row true xs:=by rw[pgo,if_neg (by simp)];rfl
theorem aQT {row x:List Int}{xs:List (List Int)}{p:Bool}(h: ¬0<bT x row)(h' : ¬bT x row=0):pgo row p (x::xs)=x::pgo row p xs:=by rw[pgo,if_neg (by omega)];simp[h']
abbrev rE (rows:List (List Int))(row:List Int):AV × List (Nat × Rs):=(.own 0,[(0,.arr 34 1 true ((kB row rows).map aD))])
abbrev uQ (rows:List (List Int))(row:List Int):Prop:=Cn 154 [.one (.sl 34 1 (rows.map aD)),.one (.sl 3 1 (row.map intD))] (rE rows row).1 (rE rows row).2
theorem aFF (rows:List (List Int))(row:List Int)(hl:rows.length<=1000000)(hc:cV rows<=1048576)(hr:row.length<=1048576):uQ rows row:=by
 refine cq Tryz.func154 (.loop (Nat × (List (List Int)) × Bool) (Q3 Nat (List (List Int)) Bool) (rg 5 40) [900,3100,3300,3400,3500,3700,4200,4300,4400] (fun yy0=>[(7,vI (yy0.1:Int)),(5,.own 900),(6,vB yy0.2.2)]) (fun yy0=>[(900,some (.arr 34 1 true (yy0.2.1.map aD)))]) (fun yy0=>yy0.1<=rows.length/\yy0.2.1.length<=2*yy0.1/\yy0.2.1++pgo row yy0.2.2 (rows.drop yy0.1)=kB row rows) (fun yy0=>rows.length - yy0.1) (fun yy0=> .len rows.length<| .br (.elem _ aD rows (fun e18=> .call (vI (bT e18 row)) []<| .br (.br (.elem _ aD rows (fun e40=> .app Int intD ([]:List Int) e40<| .appx (List Int) aD yy0.2.1 (([]:List Int)++e40)<| .back [(900,4400)])) (.elem _ aD rows (fun e40=> .app Int intD ([]:List Int) e40<| .appx (List Int) aD yy0.2.1 (([]:List Int)++e40)<| .back [(900,4400)]))) (.br (.lit<| .lit<| .br (.app Int intD ([]:List Int) row<| .appx (List Int) aD yy0.2.1 (([]:List Int)++row)<| .elem _ aD rows (fun e40=> .app Int intD ([]:List Int) e40<| .appx (List Int) aD (yy0.2.1++[([]:List Int)++row]) (([]:List Int)++e40)<| .back [(900,4400)])) (.elem _ aD rows (fun e40=> .app Int intD ([]:List Int) e40<| .appx (List Int) aD yy0.2.1 (([]:List Int)++e40)<| .back [(900,4400)]))) (.elem _ aD rows (fun e40=> .app Int intD ([]:List Int) e40<| .appx (List Int) aD yy0.2.1 (([]:List Int)++e40)<| .back [(900,4400)]))))) (.br (.app Int intD ([]:List Int) row<| .appx (List Int) aD yy0.2.1 (([]:List Int)++row)<| .fin [(0,5200)]) (.fin [(0,900)])))) (p:=Lx (rows.map aD)<| Lx (row.map intD)<| (∃(k:Nat) (out:List (List Int)) (p:Bool),0=(k:Int)/\(false)=p/\[]=out.map aD/\k<=rows.length/\out.length<=2*k/\out++pgo row p (rows.drop k)=kB row rows)/\ ∀(k:Nat) (out:List (List Int)) (p:Bool),(k<=rows.length/\out.length<=2*k/\out++pgo row p (rows.drop k)=kB row rows)->Lm aD rows/\Br ((k:Int)<(rows.length:Int)) (0<=(k:Int)/\Em aD rows k fun e18=>gD e18 row/\Br ((bT e18 row)=0) (Br (0<(bT e18 row)) (0<=(k:Int)/\Em aD rows k fun e40=>Ap intD ([]:List Int) e40 8 (out.map aD=out.map aD/\(([]:List Int)++e40).map intD=(([]:List Int)++e40).map intD/\(out.length+1)*24<=140737488355328/\bW ((k:Int)+1)/\ ∃(k' :Nat) (out' :List (List Int)) (p' :Bool),((k:Int)+1)=(k' :Int)/\(true)=p' /\(out++[([]:List Int)++e40]).map aD=out'.map aD/\(k' <=rows.length/\out'.length<=2*k' /\out' ++pgo row p' (rows.drop k')=kB row rows)/\rows.length - k' <rows.length - k)) (0<=(k:Int)/\Em aD rows k fun e40=>Ap intD ([]:List Int) e40 8 (out.map aD=out.map aD/\(([]:List Int)++e40).map intD=(([]:List Int)++e40).map intD/\(out.length+1)*24<=140737488355328/\bW ((k:Int)+1)/\ ∃(k' :Nat) (out' :List (List Int)) (p' :Bool),((k:Int)+1)=(k' :Int)/\(true)=p' /\(out++[([]:List Int)++e40]).map aD=out'.map aD/\(k' <=rows.length/\out'.length<=2*k' /\out' ++pgo row p' (rows.drop k')=kB row rows)/\rows.length - k' <rows.length - k))) (Br (0<(bT e18 row)) (Nr (p) (Ap intD ([]:List Int) row 8 (out.map aD=out.map aD/\(([]:List Int)++row).map intD=(([]:List Int)++row).map intD/\(out.length+1)*24<=140737488355328/\0<=(k:Int)/\Em aD rows k fun e40=>Ap intD ([]:List Int) e40 8 ((out++[([]:List Int)++row]).map aD=(out++[([]:List Int)++row]).map aD/\(([]:List Int)++e40).map intD=(([]:List Int)++e40).map intD/\((out++[([]:List Int)++row]).length+1)*24<=140737488355328/\bW ((k:Int)+1)/\ ∃(k' :Nat) (out' :List (List Int)) (p' :Bool),((k:Int)+1)=(k' :Int)/\(true)=p' /\((out++[([]:List Int)++row])++[([]:List Int)++e40]).map aD=out'.map aD/\(k' <=rows.length/\out'.length<=2*k' /\out' ++pgo row p' (rows.drop k')=kB row rows)/\rows.length - k' <rows.length - k))) (0<=(k:Int)/\Em aD rows k fun e40=>Ap intD ([]:List Int) e40 8 (out.map aD=out.map aD/\(([]:List Int)++e40).map intD=(([]:List Int)++e40).map intD/\(out.length+1)*24<=140737488355328/\bW ((k:Int)+1)/\ ∃(k' :Nat) (out' :List (List Int)) (p' :Bool),((k:Int)+1)=(k' :Int)/\(p)=p' /\(out++[([]:List Int)++e40]).map aD=out'.map aD/\(k' <=rows.length/\out'.length<=2*k' /\out' ++pgo row p' (rows.drop k')=kB row rows)/\rows.length - k' <rows.length - k))) (0<=(k:Int)/\Em aD rows k fun e40=>Ap intD ([]:List Int) e40 8 (out.map aD=out.map aD/\(([]:List Int)++e40).map intD=(([]:List Int)++e40).map intD/\(out.length+1)*24<=140737488355328/\bW ((k:Int)+1)/\ ∃(k' :Nat) (out' :List (List Int)) (p' :Bool),((k:Int)+1)=(k' :Int)/\(p)=p' /\(out++[([]:List Int)++e40]).map aD=out'.map aD/\(k' <=rows.length/\out'.length<=2*k' /\out' ++pgo row p' (rows.drop k')=kB row rows)/\rows.length - k' <rows.length - k)))) (Nr (p) (Ap intD ([]:List Int) row 8 (out.map aD=out.map aD/\(([]:List Int)++row).map intD=(([]:List Int)++row).map intD/\(out.length+1)*24<=140737488355328/\(out++[([]:List Int)++row]).map aD=(kB row rows).map aD/\True)) (out.map aD=(kB row rows).map aD/\True))) (by kernel_rfl) ?_;refine lx fun n0=>lx fun n1=>?_;refine⟨⟨0,([]:List (List Int)),false,rfl,rfl,rfl,aAU _,by simp,rfl⟩,fun k out p ⟨hk,ho,hv⟩=>?_⟩;refine⟨aAJ _,dd (fun c0=>?_) fun c0=>?_⟩
 ·refine⟨by omega,rfl,by omega,fun e18 h18=>?_⟩;have hsz:=zN h18;refine⟨kA _ _,dd (fun c1=>?_) fun c1=>?_⟩
  ·refine dd (fun g26=>?_) fun g26=>?_
   ·refine⟨by omega,rfl,by omega,fun e40 h40=>?_⟩;obtain rfl:=(bF h18 h40).symm;refine ap ?_ (fun _=>rfl) (by omega);refine⟨rfl,rfl,by omega,⟨by omega,by omega⟩,?_⟩;exact⟨k+1,_,_,rfl,rfl,rfl,⟨by omega,by simp;omega,by rw[<-hv,kL h18];(rw[aLX c1];simp;done)⟩,by omega⟩
   ·refine⟨by omega,rfl,by omega,fun e40 h40=>?_⟩;obtain rfl:=(bF h18 h40).symm;refine ap ?_ (fun _=>rfl) (by (simp;omega));refine⟨rfl,rfl,by omega,⟨by omega,by omega⟩,?_⟩;exact⟨k+1,_,_,rfl,rfl,rfl,⟨by omega,by simp;omega,by rw[<-hv,kL h18];(rw[aLX c1];simp;done)⟩,by omega⟩
  ·refine dd (fun g26=>?_) fun g26=>?_
   ·refine dm (fun c2=>?_) fun c2=>?_
    ·refine ap ?_ (fun _=>rfl) (by (simp;omega));refine⟨rfl,rfl,by omega,by omega,rfl,by omega,fun e40 h40=>?_⟩;obtain rfl:=(bF h18 h40).symm;refine ap ?_ (fun _=>rfl) (by (simp;omega));refine⟨rfl,rfl,by (simp;omega),⟨by omega,by omega⟩,?_⟩;exact⟨k+1,_,_,rfl,rfl,rfl,⟨by omega,by simp;omega,by rw[<-hv,kL h18];(subst c2;rw[aQR g26];simp;done)⟩,by omega⟩
    ·refine⟨by omega,rfl,by omega,fun e40 h40=>?_⟩;obtain rfl:=(bF h18 h40).symm;refine ap ?_ (fun _=>rfl) (by (simp;omega));refine⟨rfl,rfl,by omega,⟨by omega,by omega⟩,?_⟩;exact⟨k+1,_,_,rfl,rfl,rfl,⟨by omega,by simp;omega,by rw[<-hv,kL h18];(subst c2;rw[aQS];simp;done)⟩,by omega⟩
   ·refine⟨by omega,rfl,by omega,fun e40 h40=>?_⟩;obtain rfl:=(bF h18 h40).symm;refine ap ?_ (fun _=>rfl) (by (simp;omega));refine⟨rfl,rfl,by omega,⟨by omega,by omega⟩,?_⟩;exact⟨k+1,_,_,rfl,rfl,rfl,⟨by omega,by simp;omega,by rw[<-hv,kL h18];(rw[aQT g26 c1];simp;done)⟩,by omega⟩
 ·refine dm (fun c3=>?_) fun c3=>?_
  ·refine ap ?_ (fun _=>rfl) (by (simp;omega));refine⟨rfl,rfl,by omega,?_,trivial⟩
   ·rw[<-hv,xI (by omega),pgo];simp[c3]
  ·apply et1
   ·rw[<-hv,xI (by omega),pgo];simp[c3]
theorem aFG {row:List Int}: ∀xs:List (List Int),pgo row true xs=xs
 | []=>rfl
 | x::xs=>by rw[aQS,aFG xs]
theorem aBd {row:List Int}:kB row []= [row]:=rfl
theorem aBe {row x:List Int}{xs:List (List Int)}(h:0<bT x row):kB row (x::xs)=row::x::xs:=by rw[kB,aQR h,aFG]
theorem aBf {row x:List Int}{xs:List (List Int)}(h:bT x row=0):kB row (x::xs)=x::xs:=by rw[kB,aLX h,aFG]
theorem aBg {row x:List Int}{xs:List (List Int)}(h: ¬0<bT x row)(h' : ¬bT x row=0):kB row (x::xs)=x::kB row xs:=by rw[kB,aQT h h',kB]
theorem aBh {row y:List Int}: ∀{xs:List (List Int)},y∈kB row xs↔y=row\/y∈xs
 | []=>by simp[aBd]
 | x::xs=>by
   by_cases h:0<bT x row
   ·rw[aBe h];simp
   by_cases h' :bT x row=0
   ·rw[aBf h',eV.1 h'];constructor
    ·exact Or.inr
    rintro(rfl | q)
    ·simp
    exact q
   rw[aBg h h',aG7,aG7,aBh];constructor
   ·rintro(q | q | q)
    ·exact .inr (.inl q)
    ·exact .inl q
    exact .inr (.inr q)
   rintro(q | q | q)
   ·exact .inr (.inl q)
   ·exact .inl q
   exact .inr (.inr q)
abbrev Asc (l:List (List Int)):Prop:=l.Pairwise fun a b=>bT a b<0
theorem aJo {row:List Int}: ∀{xs:List (List Int)},Asc xs->Asc (kB row xs)
 | [],_=>by rw[aBd];exact List.pairwise_singleton _ _
 | x::xs,hx=>by
   have h1:=List.pairwise_cons.1 hx;by_cases h:0<bT x row
   ·rw[aBe h];refine List.pairwise_cons.2 ⟨fun y hy=>?_,hx⟩;have hrx:bT row x<0:=qH.2 h;rcases aG7.1 hy with rfl | q
    ·exact hrx
    exact mJ hrx (h1.1 y q)
   by_cases h' :bT x row=0
   ·rw[aBf h'];exact hx
   rw[aBg h h'];refine List.pairwise_cons.2 ⟨fun y hy=>?_,aJo h1.2⟩;rcases aBh.1 hy with rfl | q
   ·omega
   exact h1.1 y q
theorem aFH {row:List Int}: ∀{xs:List (List Int)},(kB row xs).length<=xs.length+1
 | []=>by simp[aBd]
 | x::xs=>by
   by_cases h:0<bT x row
   ·rw[aBe h];simp
   by_cases h' :bT x row=0
   ·rw[aBf h'];simp
   rw[aBg h h'];have:=aFH (row:=row) (xs:=xs);simp only[aHl];omega
def cB (l:List (List Int)):List (List Int):=l.foldl (fun acc x=>kB x acc) []
theorem xS (l:List (List Int)): ∀acc,Asc acc->Asc (l.foldl (fun acc x=>kB x acc) acc)/\(∀y,y∈l.foldl (fun acc x=>kB x acc) acc↔y∈acc\/y∈l)/\(l.foldl (fun acc x=>kB x acc) acc).length<=acc.length+l.length:=by
 induction l with
 | nil=>intro acc h;simp[h]
 | cons x l ih=>
   intro acc h;obtain⟨h1,h2,h3⟩:=ih _ (aJo (row:=x) h);refine⟨h1,fun y=>?_,?_⟩
   ·rw[List.foldl_cons,h2,aBh,aG7];constructor
    ·rintro((q | q) | q)
     ·exact .inr (.inl q)
     ·exact .inl q
     exact .inr (.inr q)
    rintro(q | q | q)
    ·exact .inl (.inr q)
    ·exact .inl (.inl q)
    exact .inr q
   have:=aFH (row:=x) (xs:=acc);rw[List.foldl_cons,aHl];omega
theorem aBi {l:List (List Int)}{x:List Int}:cB (l++[x])=kB x (cB l):=by simp[cB,List.foldl_append]
theorem aIM: ∀{l m:List (List Int)},Asc l->Asc m->(∀x,x∈l↔x∈m)->l=m
 | [],[],_,_,_=>rfl
 | [],b::m,_,_,h=>by have:=(h b).2 (by simp);simp at this
 | a::l,[],_,_,h=>by have:=(h a).1 (by simp);simp at this
 | a::l,b::m,hl,hm,h=>by
   have hl' :=List.pairwise_cons.1 hl;have hm' :=List.pairwise_cons.1 hm
   have hab:a=b:=by
    rcases aG7.1 ((h a).1 (by simp)) with q | q
    ·exact q
    rcases aG7.1 ((h b).2 (by simp)) with r | r
    ·exact r.symm
    have h1:=hm'.1 a q;have h2:=hl'.1 b r;have:=mJ h1 h2;rw[tI] at this;omega
   subst hab
   congr 1
   refine aIM hl'.2 hm'.2 fun x=>⟨fun hx=>?_,fun hx=>?_⟩
   ·rcases aG7.1 ((h x).1 (by simp[hx])) with q | q
    ·subst q;have:=hl'.1 _ hx;rw[tI] at this;omega
    exact q
   rcases aG7.1 ((h x).2 (by simp[hx])) with q | q
   ·subst q;have:=hm'.1 _ hx;rw[tI] at this;omega
   exact q
theorem aFI {s:List (List Int)}{i:Nat}:i∈nH s↔i<s.length/\(i=0\/ ¬s.getD i []=s.getD (i - 1) []):=by
 rw[nH,aPF,aJg];simp[aIL]
theorem aHU (s:List (List Int)): ∀n,n<s.length-> ∃i,i∈nH s/\s.getD i []=s.getD n []
 | 0,h=>⟨0,aFI.2 ⟨h,.inl rfl⟩,rfl⟩
 | n+1,h=>by
   by_cases e:s.getD (n+1) []=s.getD n []
   ·obtain⟨i,h1,h2⟩:=aHU s n (by omega);exact⟨i,h1,by rw[h2,e]⟩
   exact⟨n+1,aFI.2 ⟨h,.inr e⟩,rfl⟩
theorem aQV {s:List (List Int)}{x:List Int}:x∈fG s↔x∈s:=by
 constructor
 ·intro h;obtain⟨i,hi,rfl⟩:=aH5.1 h;obtain⟨y,hy⟩:=cP (aMi hi);rw[aT hy];exact aAx hy
 intro h;obtain⟨n,hn,hx⟩:=List.mem_iff_getElem.1 h;obtain⟨i,h1,h2⟩:=aHU s n hn;refine aH5.2 ⟨i,h1,?_⟩;rw[h2,<-hx];simp[hn]
theorem aQW {s:List (List Int)}(hs:s.Pairwise (fun a b=>leR a b=true)):Asc (fG s):=by
 rw[fG,Asc,List.pairwise_map];have h0:(nH s).Pairwise (· < ·):=List.Pairwise.filter _ List.pairwise_lt_range;refine List.Pairwise.imp_of_mem ?_ h0;intro i j hi hj hij;have h1:=aFI.1 hj;have hp:=List.pairwise_iff_getElem.1 hs
 have hg: ∀a b,a<b->b<s.length->leR (s.getD a []) (s.getD b [])=true:=by
  intro a b hab hb;have:=hp a b (by omega) hb hab;simpa [hb,show a<s.length by omega] using this
 have h2:=hg (j - 1) j (by omega) h1.1;rw[leR,aLF] at h2
 have h3:bT (s.getD (j - 1) []) (s.getD j [])<0:=by
  have: ¬bT (s.getD (j - 1) []) (s.getD j [])=0:=fun q=>by
   have:=eV.1 q;rcases h1.2 with r | r
   ·omega
   exact r this.symm
  omega
 by_cases e:i=j - 1
 ·rw[e];exact h3
 have h4:=hg i (j - 1) (by omega) (by omega);rw[leR,aLF] at h4;by_cases z:bT (s.getD i []) (s.getD (j - 1) [])=0
 ·rw[eV.1 z];exact h3
 exact mJ (by omega) h3
theorem xT (l:List (List Int)):cB l=fG (cQ l):=by
 obtain⟨h1,h2,_⟩:=xS l [] List.Pairwise.nil
 exact aIM h1 (aQW (aEz l)) fun x=>by
  have h2' :=h2 x;rw[show l.foldl (fun acc x=>kB x acc) []=cB l from rfl] at h2';rw[h2',aQV,(aAc l).mem_iff];simp
theorem aG8 {l:List (List Int)}{m:Nat}(h: ∀x∈l,x.length<=m):(cB l).length<=l.length/\cV (cB l)<=l.length+l.length*m:=by
 obtain⟨_,h2,h3⟩:=xS l [] List.Pairwise.nil
 have h4:(cB l).length<=l.length:=by
  rw[List.length_nil,Nat.zero_add] at h3;exact h3
 have:=uP (l:=cB l) (m:=m) fun x hx=>h x (by simpa using (h2 x).1 hx);have:=Nat.mul_le_mul_right m h4;exact⟨h4,by omega⟩
theorem aIN {t:aP}{cols:List Int}{j:Nat}{e:List Int}(h:t.rows[j]? =some e):(kR t cols)[j]? =some (gB e cols).1:=by simp[kR,h]
theorem aIO {t:aP}{cols:List Int}{k:Nat}(h:(aR t&&dI (t.arity - 1) cols)=true):(cB ((kR t cols).take k)).length<=8/\cV (cB ((kR t cols).take k))<=64:=by
 have h0:=h;rw[aAS] at h;have ha:=bP h.1;have hc:=aFC h.2 (by omega);have hl:(kR t cols).length=t.rows.length:=aAJ _
 have:=aG8 (l:=(kR t cols).take k) (m:=3) fun r hr=>by
  obtain⟨q,_,rfl⟩:=aH5.1 (List.mem_of_mem_take hr);have:=aEw q cols;omega
 have h5:((kR t cols).take k).length<=8:=by simp;omega
 omega
abbrev aAf (t:aP)(cols:List Int):AV × List (Nat × Rs):=(.tup [.own 0,.own 1],[(0,.arr 34 1 true ((gY t cols).1.map aD)),(1,.arr 3 1 true ((gY t cols).2.map intD))])
abbrev aFJ (t:aP)(cols:List Int):Prop:=Cn 110 [.agg [.str t.name,.int .i64 t.arity,.sl 34 1 (t.rows.map aD)],.one (.sl 3 1 (cols.map intD))] (aAf t cols).1 (aAf t cols).2
theorem aQX (t:aP)(cols:List Int)(hl:cols.length<=1048576):aFJ t cols:=by
 refine cq Tryz.func110 (.call (vB (aR t&&dI (t.arity - 1) cols)) []<| .br (.fin [(0,1600),(1,1700)]) (.loop (Nat × (List (List Int))) (Q2 Nat (List (List Int))) ([6,8,9,10,16]++rg 24 20) [1600,3800,4300] (fun yy0=>[(8,vI (yy0.1:Int)),(6,.own 1600)]) (fun yy0=>[(1600,some (.arr 34 1 true (yy0.2.map aD)))]) (fun yy0=>yy0.1<=t.rows.length/\yy0.2=cB ((kR t cols).take yy0.1)) (fun yy0=>t.rows.length - yy0.1) (fun yy0=> .len t.rows.length<| .br (.elem _ aD t.rows (fun e35=>cH (oD e35 cols)<| cH (rE yy0.2 ((gB e35 cols).1))<| .back [(1600,4300)])) (.loop (Nat × (List Int)) (Q2 Nat (List Int)) ([7,11,12,13,14,15,17]++rg 44 36) [1700,6400,7800,7900] (fun yy1=>[(11,vI (yy1.1:Int)),(7,.own 1700)]) (fun yy1=>[(1700,some (.arr 3 1 true (yy1.2.map intD)))]) (fun yy1=>yy1.1<=yy0.2.length/\yy1.2=(yy0.2.take yy1.1).map (iM (kR t cols))) (fun yy1=>yy0.2.length - yy1.1) (fun yy1=> .len yy0.2.length<| .br (.loop (Nat × Int) (Q2 Nat Int) ([12,13,14,15]++rg 50 26) [6400] (fun yy2=>[(12,vI yy2.2),(13,vI (yy2.1:Int))]) (fun yy2=>[]) (fun yy2=>yy2.1<=t.rows.length/\yy2.2=iM ((kR t cols).take yy2.1) (yy0.2.getD yy1.1 [])) (fun yy2=>t.rows.length - yy2.1) (fun yy2=> .len t.rows.length<| .br (.elem _ aD t.rows (fun e61=>cH (oD e61 cols)<| .len yy0.2.length<| .elem _ aD yy0.2 (fun e71=> .call (vI (bT ((gB e61 cols).1) e71)) []<| .br (.back []) (.back [])))) (.app Int intD yy1.2 ([yy2.2]:List Int)<| .back [(1700,7900)]))) (.fin [(0,1600),(1,1700)])))))) (p:=Lx (t.rows.map aD)<| Lx (cols.map intD)<| xQ t cols/\Nr (aR t&&dI (t.arity - 1) cols) ([]=(gY t cols).1.map aD/\[]=(gY t cols).2.map intD/\True) ((∃(k:Nat) (out:List (List Int)),0=(k:Int)/\[]=out.map aD/\k<=t.rows.length/\out=cB ((kR t cols).take k))/\ ∀(k:Nat) (out:List (List Int)),(k<=t.rows.length/\out=cB ((kR t cols).take k))->Lm aD t.rows/\Br ((k:Int)<(t.rows.length:Int)) (0<=(k:Int)/\Em aD t.rows k fun e35=>rC e35 cols/\uQ out ((gB e35 cols).1)/\bW ((k:Int)+1)/\ ∃(k' :Nat) (out' :List (List Int)),((k:Int)+1)=(k' :Int)/\(kB ((gB e35 cols).1) out).map aD=out'.map aD/\(k' <=t.rows.length/\out' =cB ((kR t cols).take k'))/\t.rows.length - k' <t.rows.length - k) ((∃(i:Nat) (c:List Int),0=(i:Int)/\[]=c.map intD/\i<=out.length/\c=(out.take i).map (iM (kR t cols)))/\ ∀(i:Nat) (c:List Int),(i<=out.length/\c=(out.take i).map (iM (kR t cols)))->Lm aD out/\Br ((i:Int)<(out.length:Int)) ((∃(j:Nat) (z:Int),0=z/\0=(j:Int)/\j<=t.rows.length/\z=iM ((kR t cols).take j) (out.getD i []))/\ ∀(j:Nat) (z:Int),(j<=t.rows.length/\z=iM ((kR t cols).take j) (out.getD i []))->Lm aD t.rows/\Br ((j:Int)<(t.rows.length:Int)) (0<=(j:Int)/\Em aD t.rows j fun e61=>rC e61 cols/\0<=(i:Int)/\Lm aD out/\(i:Int)<(out.length:Int)/\Em aD out i fun e71=>gD ((gB e61 cols).1) e71/\Br ((bT ((gB e61 cols).1) e71)=0) (bW (z+1)/\bW ((j:Int)+1)/\ ∃(j' :Nat) (z' :Int),(z+1)=z' /\((j:Int)+1)=(j' :Int)/\(j' <=t.rows.length/\z' =iM ((kR t cols).take j') (out.getD i []))/\t.rows.length - j' <t.rows.length - j) (bW ((j:Int)+1)/\ ∃(j' :Nat) (z' :Int),z=z' /\((j:Int)+1)=(j' :Int)/\(j' <=t.rows.length/\z' =iM ((kR t cols).take j') (out.getD i []))/\t.rows.length - j' <t.rows.length - j)) (Ap intD c ([z]:List Int) 8 (bW ((i:Int)+1)/\ ∃(i' :Nat) (c' :List Int),((i:Int)+1)=(i' :Int)/\(c++[z]).map intD=c'.map intD/\(i' <=out.length/\c' =(out.take i').map (iM (kR t cols)))/\out.length - i' <out.length - i))) (out.map aD=(gY t cols).1.map aD/\c.map intD=(gY t cols).2.map intD/\True)))) (by kernel_rfl) ?_;refine lx fun n0=>lx fun n1=>?_;refine⟨aHN t _,dm (fun c0=>?_) fun c0=>?_⟩
 ·have hbad:(aR t&&dI (t.arity - 1) cols)=false:=by simpa using c0
  apply et2<;>((rw[aDv hbad]<;>rfl))
 ·have hok:(aR t&&dI (t.arity - 1) cols)=true:=by simpa using c0
  obtain⟨hs1,hs2⟩:=aFD hok;refine⟨⟨0,([]:List (List Int)),rfl,rfl,aAU _,rfl⟩,fun k out ⟨hk,ho⟩=>?_⟩;refine⟨aAJ _,dd (fun c1=>?_) fun c1=>?_⟩
  ·have hp:=aIO (k:=k) hok;rw[<-ho] at hp;refine⟨by omega,rfl,by omega,fun e35 h35=>?_⟩;have hsl:=aEw e35 cols;refine⟨aBb _ _ (by omega),aFF out ((gB e35 cols).1) (by omega) (by omega) (by omega),⟨by omega,by omega⟩,?_⟩;exact⟨k+1,_,rfl,rfl,⟨by omega,by rw[ho,bS (aIN h35),aBi]⟩,by omega⟩
  ·have hV:out=aQK t cols:=by rw[ho,aCy (by simp[kR];omega),xT];rfl
   have hp:=aIO (k:=k) hok;rw[<-ho] at hp;refine⟨⟨0,([]:List Int),rfl,rfl,aAU _,rfl⟩,fun i c ⟨hi,hc⟩=>?_⟩;refine⟨aAJ _,dd (fun c2=>?_) fun c2=>?_⟩
   ·obtain⟨g,hg⟩:=cP (l:=out) (k:=i) (by omega);refine⟨⟨0,0,rfl,rfl,aAU _,rfl⟩,fun j z ⟨hj,hz⟩=>?_⟩;refine⟨aAJ _,dd (fun c3=>?_) fun c3=>?_⟩
    ·refine⟨by omega,rfl,by omega,fun e61 h61=>?_⟩;refine⟨aBb _ _ (by omega),by omega,aAJ _,by omega,rfl,by omega,fun e71 h71=>?_⟩;have hg71:out.getD i []=e71:=aT h71;refine⟨kA _ _,dd (fun c4=>?_) fun c4=>?_⟩
     ·have hcl:=aQN ((kR t cols).take j) e71;rw[<-hg71,<-hz] at hcl;have hjl:((kR t cols).take j).length<=8:=by simp;omega
      refine⟨⟨by omega,by omega⟩,⟨by omega,by omega⟩,?_⟩;exact⟨j+1,_,rfl,rfl,⟨by omega,by rw[hz,hg71,aMj (aIN h61) (eV.1 c4).symm]⟩,by omega⟩
     ·refine⟨⟨by omega,by omega⟩,?_⟩;exact⟨j+1,_,rfl,rfl,⟨by omega,by rw[hz,hg71,aQM (aIN h61) (fun q=>c4 (eV.2 q.symm))]⟩,by omega⟩
    ·refine ap ?_ (fun _=>rfl) (by (rw[hc];simp;omega));refine⟨⟨by omega,by omega⟩,?_⟩;exact⟨i+1,_,rfl,rfl,⟨by omega,by rw[hc,hz,bS hg,aT hg,aGO,aCy (l:=kR t cols) (i:=j) (by simp[kR];omega)];rfl⟩,by omega⟩
   ·have hC:c=aQL t cols:=by rw[hc,aCy (by omega),hV];rfl
    apply et2<;>(first|(rw[tK hok,hV]<;>rfl)|(rw[tK hok,hC]<;>rfl))
def bR (s:Int)(v:Nat):Bool:=decide (cJ .and .i64 (s/2^v) 1=1)
def lO (s:Int)(k:Nat):List Int:=((List.range k).filter (bR s)).map fun v:Nat=>(v:Int)
def pF (s:Int):List Int:=lO s 3
theorem aHV {s:Int}{k:Nat}(h:cJ .and .i64 (s/2^k) 1=1):lO s (k+1)=lO s k++[(k:Int)]:=by
 rw[lO,List.range_succ,List.filter_append,aGO];simp[lO,bR,h]
theorem aJp {s:Int}{k:Nat}(h: ¬cJ .and .i64 (s/2^k) 1=1):lO s (k+1)=lO s k:=by
 rw[lO,List.range_succ,List.filter_append,aGO];simp[lO,bR,h]
theorem aNz {s:Int}{k:Nat}(hs:0<=s/\s<=7)(hk:k<=3)(h:s/2^k=0):lO s k=pF s:=by
 have h1:s=0\/s=1\/s=2\/s=3\/s=4\/s=5\/s=6\/s=7:=by omega
 have h2:k=0\/k=1\/k=2\/k=3:=by omega
 rcases h2 with rfl|rfl|rfl|rfl<;>rcases h1 with rfl|rfl|rfl|rfl|rfl|rfl|rfl|rfl<;>first|rfl|(revert h;decide)
theorem aSr {s:Int}{k:Nat}(hs:0<=s/\s<=7)(hk:k<=3)(h: ¬s/2^k=0):k<3:=by
 by_cases q:k=3
 ·subst q;omega
 omega
theorem aCg (s:Int)(k:Nat):(lO s k).length<=k:=by
 rw[lO,aAJ];have:=(List.filter_sublist (l:=List.range k) (p:=bR s)).length_le;rw[List.length_range] at this;exact this
theorem aCh {n:Int}(h:1<=n/\n<=3):2<=(2:Int)^n.toNat/\(2:Int)^n.toNat<=8:=by
 have:n=1\/n=2\/n=3:=by omega
 rcases this with rfl | rfl | rfl<;>decide
def rF (k:Nat):List (List Int):=(List.range k).map fun i=>pF ((i+1:Nat):Int)
def bL (n:Int):List (List Int):=rF ((2:Int)^n.toNat - 1).toNat
theorem aFK (k:Nat):rF (k+1)=rF k++[pF ((k+1:Nat):Int)]:=by rw[rF,List.range_succ,aGO];rfl
abbrev xU (s:Int):AV × List (Nat × Rs):=(.own 0,[(0,.arr 3 1 true ((pF s).map intD))])
abbrev aDQ (s:Int):Prop:=Cn 162 [.one (.int .i64 s)] (xU s).1 (xU s).2
theorem aOA (s:Int)(hs:0<=s/\s<=7):aDQ s:=by
 refine cq Tryz.func162 (.loop (Nat × (List Int)) (Q2 Nat (List Int)) (rg 3 18) [500,1900,2000] (fun yy0=>[(4,vI (yy0.1:Int)),(3,.own 500)]) (fun yy0=>[(500,some (.arr 3 1 true (yy0.2.map intD)))]) (fun yy0=>yy0.1<=3/\yy0.2=lO s yy0.1) (fun yy0=>3 - yy0.1) (fun yy0=> .br (.br (.app Int intD yy0.2 ([(yy0.1:Int)]:List Int)<| .back [(500,2000)]) (.back [(500,500)])) (.fin [(0,500)]))) (p:=(∃(k:Nat) (out:List Int),0=(k:Int)/\[]=out.map intD/\k<=3/\out=lO s k)/\ ∀(k:Nat) (out:List Int),(k<=3/\out=lO s k)->(0<=(k:Int)/\(k:Int)<=64)/\Nb ((s/2^k)=0) ((0<=(k:Int)/\(k:Int)<=64)/\Br ((cJ .and .i64 (s/2^k) (1:Int))=1) (Ap intD out ([(k:Int)]:List Int) 8 (bW ((k:Int)+1)/\ ∃(k' :Nat) (out' :List Int),((k:Int)+1)=(k' :Int)/\(out++[(k:Int)]).map intD=out'.map intD/\(k' <=3/\out' =lO s k')/\3 - k' <3 - k)) (bW ((k:Int)+1)/\ ∃(k' :Nat) (out' :List Int),((k:Int)+1)=(k' :Int)/\out.map intD=out'.map intD/\(k' <=3/\out' =lO s k')/\3 - k' <3 - k)) (out.map intD=(pF s).map intD/\True)) (by kernel_rfl) ?_;refine⟨⟨0,([]:List Int),rfl,rfl,by omega,rfl⟩,fun k out ⟨hk,ho⟩=>?_⟩;refine⟨⟨by omega,by omega⟩,dn (fun c0=>?_) fun c0=>?_⟩
 ·have hk3:=aSr hs hk c0;have hln:=aCg s k;refine⟨⟨by omega,by omega⟩,dd (fun c1=>?_) fun c1=>?_⟩
  ·refine ap ?_ (fun _=>rfl) (by (simp[ho];omega));refine⟨⟨by omega,by omega⟩,?_⟩;exact⟨k+1,_,rfl,rfl,⟨by omega,by (rw[ho,aHV c1];done)⟩,by omega⟩
  ·refine⟨⟨by omega,by omega⟩,?_⟩;exact⟨k+1,_,rfl,rfl,⟨by omega,by (rw[ho,aJp c1];done)⟩,by omega⟩
 ·apply et1
  ·(rw[ho];exact congrArg _ (aNz hs hk c0))
abbrev xV (s:Int):AV × List (Nat × Rs):=(.own 0,[(0,.arr 3 1 true ((pF s).map intD))])
abbrev aDR (s:Int):Prop:=Cn 166 [.one (.int .i64 s)] (xV s).1 (xV s).2
theorem aOB (s:Int)(hs:0<=s/\s<=7):aDR s:=by
 refine cq Tryz.func166 (.loop (Nat × (List Int)) (Q2 Nat (List Int)) (rg 3 16) [500,1700,1800] (fun yy0=>[(4,vI (yy0.1:Int)),(3,.own 500)]) (fun yy0=>[(500,some (.arr 3 1 true (yy0.2.map intD)))]) (fun yy0=>yy0.1<=3/\yy0.2=lO s yy0.1) (fun yy0=>3 - yy0.1) (fun yy0=> .br (.br (.app Int intD yy0.2 ([(yy0.1:Int)]:List Int)<| .back [(500,1800)]) (.back [(500,500)])) (.fin [(0,500)]))) (p:=(∃(k:Nat) (out:List Int),0=(k:Int)/\[]=out.map intD/\k<=3/\out=lO s k)/\ ∀(k:Nat) (out:List Int),(k<=3/\out=lO s k)->Br ((k:Int)<3) ((0<=(k:Int)/\(k:Int)<=64)/\Br ((cJ .and .i64 (s/2^k) (1:Int))=1) (Ap intD out ([(k:Int)]:List Int) 8 (bW ((k:Int)+1)/\ ∃(k' :Nat) (out' :List Int),((k:Int)+1)=(k' :Int)/\(out++[(k:Int)]).map intD=out'.map intD/\(k' <=3/\out' =lO s k')/\3 - k' <3 - k)) (bW ((k:Int)+1)/\ ∃(k' :Nat) (out' :List Int),((k:Int)+1)=(k' :Int)/\out.map intD=out'.map intD/\(k' <=3/\out' =lO s k')/\3 - k' <3 - k)) (out.map intD=(pF s).map intD/\True)) (by kernel_rfl) ?_;refine⟨⟨0,([]:List Int),rfl,rfl,by omega,rfl⟩,fun k out ⟨hk,ho⟩=>?_⟩;refine dd (fun c0=>?_) fun c0=>?_
 ·skip
  have hln:=aCg s k;refine⟨⟨by omega,by omega⟩,dd (fun c1=>?_) fun c1=>?_⟩
  ·refine ap ?_ (fun _=>rfl) (by (simp[ho];omega));refine⟨⟨by omega,by omega⟩,?_⟩;exact⟨k+1,_,rfl,rfl,⟨by omega,by (rw[ho,aHV c1];done)⟩,by omega⟩
  ·refine⟨⟨by omega,by omega⟩,?_⟩;exact⟨k+1,_,rfl,rfl,⟨by omega,by (rw[ho,aJp c1];done)⟩,by omega⟩
 ·apply et1
  ·(rw[ho];exact congrArg _ (by rw[pF,show 3=k by omega]))
abbrev xW (n:Int):AV × List (Nat × Rs):=(.own 0,[(0,.arr 34 1 true ((bL n).map aD))])
abbrev aDS (n:Int):Prop:=Cn 106 [.one (.int .i64 n)] (xW n).1 (xW n).2
theorem aOC (n:Int)(hn:1<=n/\n<=3):aDS n:=by
 refine cq Tryz.func106 (.call (vB (dV n (1:Int) (3:Int))) []<| .br (.fin []) (.loop (Nat × (List (List Int))) (Q2 Nat (List (List Int))) ([3,4]++rg 8 12) [800,1700,1800,1900] (fun yy0=>[(4,vI ((yy0.1+1:Nat):Int)),(3,.own 800)]) (fun yy0=>[(800,some (.arr 34 1 true (yy0.2.map aD)))]) (fun yy0=>yy0.1<=((2:Int)^n.toNat - 1).toNat/\yy0.2=rF yy0.1) (fun yy0=>((2:Int)^n.toNat - 1).toNat - yy0.1) (fun yy0=> .br (cH (xU ((yy0.1+1:Nat):Int))<| .appx (List Int) aD yy0.2 (pF ((yy0.1+1:Nat):Int))<| .back [(800,1900)]) (.fin [(0,800)])))) (p:=eW n (1:Int) (3:Int)/\Nr (dV n (1:Int) (3:Int)) ([]=(bL n).map aD/\True) ((∃(k:Nat) (out:List (List Int)),1=((k+1:Nat):Int)/\[]=out.map aD/\k<=((2:Int)^n.toNat - 1).toNat/\out=rF k)/\ ∀(k:Nat) (out:List (List Int)),(k<=((2:Int)^n.toNat - 1).toNat/\out=rF k)->(0<=n/\n<=64)/\bW ((1:Int)*2^(Int.toNat n))/\Br (((k+1:Nat):Int)<((1:Int)*2^(Int.toNat n))) (aDQ ((k+1:Nat):Int)/\out.map aD=out.map aD/\(pF ((k+1:Nat):Int)).map intD=(pF ((k+1:Nat):Int)).map intD/\(out.length+1)*24<=140737488355328/\bW (((k+1:Nat):Int)+1)/\ ∃(k' :Nat) (out' :List (List Int)),(((k+1:Nat):Int)+1)=((k' +1:Nat):Int)/\(out++[pF ((k+1:Nat):Int)]).map aD=out'.map aD/\(k' <=((2:Int)^n.toNat - 1).toNat/\out' =rF k')/\((2:Int)^n.toNat - 1).toNat - k' <((2:Int)^n.toNat - 1).toNat - k) (out.map aD=(bL n).map aD/\True))) (by kernel_rfl) ?_;have hb:=aCh hn;have hin:dV n 1 3=true:=gN hn.1 hn.2;refine⟨jJ _ _ _,dm (fun c0=>?_) fun c0=>?_⟩
 ·apply et1
  ·(exfalso;simp[hin] at c0;done)
 ·refine⟨⟨0,([]:List (List Int)),rfl,rfl,aAU _,rfl⟩,fun k out ⟨hk,ho⟩=>?_⟩;refine⟨⟨by omega,by omega⟩,⟨by omega,by omega⟩,dd (fun c1=>?_) fun c1=>?_⟩
  ·refine⟨aOA ((k+1:Nat):Int) (by omega),rfl,rfl,by (simp[ho,rF];omega),⟨by omega,by omega⟩,?_⟩;exact⟨(k+1),_,rfl,rfl,⟨by omega,by rw[ho,aFK]⟩,by omega⟩
  ·apply et1
   ·(rw[ho,bL];congr 2;omega)
abbrev xX (n:Int):AV × List (Nat × Rs):=(.own 0,[(0,.arr 34 1 true ((bL n).map aD))])
abbrev aDT (n:Int):Prop:=Cn 109 [.one (.int .i64 n)] (xX n).1 (xX n).2
theorem aOD (n:Int)(hn:1<=n/\n<=3):aDT n:=by
 refine cq Tryz.func109 (.loop (Nat × (List (List Int))) (Q2 Nat (List (List Int))) (rg 3 18) [500,1800,1900,2000] (fun yy0=>[(4,vI ((yy0.1+1:Nat):Int)),(3,.own 500)]) (fun yy0=>[(500,some (.arr 34 1 true (yy0.2.map aD)))]) (fun yy0=>yy0.1<=((2:Int)^n.toNat - 1).toNat/\yy0.2=rF yy0.1) (fun yy0=>((2:Int)^n.toNat - 1).toNat - yy0.1) (fun yy0=> .call (vB (dV n (1:Int) (3:Int))) []<| .br (.lit<| .lit<| .lit<| .lit<| .br (cH (xV ((yy0.1+1:Nat):Int))<| .appx (List Int) aD yy0.2 (pF ((yy0.1+1:Nat):Int))<| .back [(500,2000)]) (.fin [(0,500)])) (.fin [(0,500)]))) (p:=(∃(k:Nat) (out:List (List Int)),1=((k+1:Nat):Int)/\[]=out.map aD/\k<=((2:Int)^n.toNat - 1).toNat/\out=rF k)/\ ∀(k:Nat) (out:List (List Int)),(k<=((2:Int)^n.toNat - 1).toNat/\out=rF k)->dZ n (1:Int) (3:Int)/\Bb (dV n (1:Int) (3:Int)) ((0<=n/\n<=64)/\bW ((1:Int)*2^(Int.toNat n))/\Br (((k+1:Nat):Int)<((1:Int)*2^(Int.toNat n))) (aDR ((k+1:Nat):Int)/\out.map aD=out.map aD/\(pF ((k+1:Nat):Int)).map intD=(pF ((k+1:Nat):Int)).map intD/\(out.length+1)*24<=140737488355328/\bW (((k+1:Nat):Int)+1)/\ ∃(k' :Nat) (out' :List (List Int)),(((k+1:Nat):Int)+1)=((k' +1:Nat):Int)/\(out++[pF ((k+1:Nat):Int)]).map aD=out'.map aD/\(k' <=((2:Int)^n.toNat - 1).toNat/\out' =rF k')/\((2:Int)^n.toNat - 1).toNat - k' <((2:Int)^n.toNat - 1).toNat - k) (out.map aD=(bL n).map aD/\True)) (out.map aD=(bL n).map aD/\True)) (by kernel_rfl) ?_;have hb:=aCh hn;have hin:dV n 1 3=true:=gN hn.1 hn.2;refine⟨⟨0,([]:List (List Int)),rfl,rfl,aAU _,rfl⟩,fun k out ⟨hk,ho⟩=>?_⟩;refine⟨gX _ _ _,db (fun g8=>?_) fun g8=>?_⟩
 ·refine⟨⟨by omega,by omega⟩,⟨by omega,by omega⟩,dd (fun c0=>?_) fun c0=>?_⟩
  ·refine⟨aOB ((k+1:Nat):Int) (by omega),rfl,rfl,by (simp[ho,rF];omega),⟨by omega,by omega⟩,?_⟩;exact⟨(k+1),_,rfl,rfl,⟨by omega,by rw[ho,aFK]⟩,by omega⟩
  ·apply et1
   ·(rw[ho,bL];congr 2;omega)
 ·apply et1
  ·(exfalso;simp[hin] at*;done)
def wF (t:aP)(cols:List Int):aS:=⟨cols,(gY t cols).1,(gY t cols).2⟩
def aX (t:aP):aQ:=if aR t=true then ⟨t.name,t.arity,(t.rows.length:Nat),(bL t.arity).map (wF t)⟩ else sC
theorem iY {t:aP}(h:aR t=true):aX t=⟨t.name,t.arity,(t.rows.length:Nat),(bL t.arity).map (wF t)⟩:=by rw[aX,if_pos h]
theorem aAg {t:aP}(h:aR t=false):aX t=sC:=by rw[aX,if_neg (by rw[h];decide)]
theorem aMk {α:Type}{l:List α}{k:Nat}(h:k<l.length):l.drop k≠[]:=fun e=>by
 have:=congrArg List.length e;simp at this;omega
theorem aMl {α:Type}{l l2:List α}{k:Nat}{x:α}(h:l.drop k=x::l2):l2=l.drop (k+1):=by rw[<-List.tail_drop,h];rfl
theorem aMm {α:Type}{l l2:List α}{k:Nat}{x:α}(h:l.drop k=x::l2):l[k]? =some x:=by
 have:=congrArg List.head? h;simpa [List.head?_drop] using this
theorem aAh {n:Int}{k:Nat}{x:List Int}(h:(bL n)[k]? =some x):x.length<=3:=by
 obtain⟨i,_,rfl⟩:=aH5.1 (aAx h);exact aCg _ 3
theorem xY {n:Int}(h:1<=n/\n<=3):(bL n).length<=7:=by
 have:=aCh h;simp only[bL,rF,aAJ,List.length_range];omega
abbrev zO (t:aP):AV × List (Nat × Rs):=(.agg [.p none (.str ((aX t).name)),vI ((aX t).arity),vI ((aX t).rowCount),.own 0],[(0,.arr 138 3 true ((aX t).groups.map aH))])
abbrev aCi (t:aP):Prop:=Cn 51 [.agg [.str t.name,.int .i64 t.arity,.sl 34 1 (t.rows.map aD)]] (zO t).1 (zO t).2
theorem aIP (t:aP):aCi t:=by
 refine cq Tryz.func51 (.call (vB (aR t)) []<| .br (.fin []) (.len t.rows.length<| cH (xW t.arity)<| .len ((bL t.arity).length)<| .loop (Nat × (List (List Int)) × (List aS)) (Q3 Nat (List (List Int)) (List aS)) ([5,6,7]++rg 24 20) [300,2200,3100,3101,4000,4100,9000,50607] (fun yy0=>[(24,vI (yy0.1:Int))]) (fun yy0=>[(300,some (.box 91 [.p none (.str t.name),vI t.arity,vI (t.rows.length:Int),.own 9000])),(9000,some (.arr 138 3 true (yy0.2.2.map aH))),(2200,some (.arr 34 1 true (List.replicate yy0.1 [bG.gone]++yy0.2.1.map aD)))]) (fun yy0=>yy0.1<=(bL t.arity).length/\yy0.2.1=(bL t.arity).drop yy0.1/\yy0.2.2=((bL t.arity).take yy0.1).map (wF t)) (fun yy0=>(bL t.arity).length - yy0.1) (fun yy0=> .br (.takeg 6 2200 yy0.1 50607 (List Int) aD yy0.2.1 (fun x6 l6=> .len (yy0.1+(l6.length+1))<| .leave 7 2200 yy0.1 50607 (List Int) aD x6 l6 (cH (aAe t x6)<| .appx aS aH yy0.2.2 (⟨x6,(gY t x6).1,(gY t x6).2⟩:aS)<| .back [(300,300),(2200,2200),(9000,4100)]))) (.fin [(0,9000)])))) (p:=Lx (t.rows.map aD)<| rA t/\Nr (aR t) (ByteArray.empty=((aX t).name)/\0=((aX t).arity)/\0=((aX t).rowCount)/\[]=(aX t).groups.map aH/\True) (Lm aD t.rows/\(aDS t.arity/\(Lm aD (bL t.arity)/\((∃(k:Nat) (l2:List (List Int)) (out:List aS),0=(k:Int)/\t.name=t.name/\t.arity=t.arity/\(t.rows.length:Int)=(t.rows.length:Int)/\[]=out.map aH/\(bL t.arity).map aD=List.replicate k [bG.gone]++l2.map aD/\k<=(bL t.arity).length/\l2=(bL t.arity).drop k/\out=((bL t.arity).take k).map (wF t))/\ ∀(k:Nat) (l2:List (List Int)) (out:List aS),(k<=(bL t.arity).length/\l2=(bL t.arity).drop k/\out=((bL t.arity).take k).map (wF t))->Br ((k:Int)<(((bL t.arity).length:Nat):Int)) (List.replicate k [bG.gone]++l2.map aD=List.replicate k [bG.gone]++l2.map aD/\l2≠[]/\ ∀x6 l6,l2=x6::l6->0<=(k:Int)/\(List.replicate k [bG.gone]++(x6::l6).map aD).length=k+(l6.length+1)/\(k:Int)<((k+(l6.length+1):Nat):Int)/\k=k/\List.replicate k [bG.gone]++(x6::l6).map aD=List.replicate k [bG.gone]++(x6::l6).map aD/\k=k/\aFE t x6/\out.map aH=out.map aH/\x6.map intD=(⟨x6,(gY t x6).1,(gY t x6).2⟩:aS).columns.map intD/\(gY t x6).1.map aD=(⟨x6,(gY t x6).1,(gY t x6).2⟩:aS).values.map aD/\(gY t x6).2.map intD=(⟨x6,(gY t x6).1,(gY t x6).2⟩:aS).counts.map intD/\(out.length+1)*72<=140737488355328/\bW ((k:Int)+1)/\ ∃(k' :Nat) (l2' :List (List Int)) (out' :List aS),((k:Int)+1)=(k' :Int)/\t.name=t.name/\t.arity=t.arity/\(t.rows.length:Int)=(t.rows.length:Int)/\(out++[(⟨x6,(gY t x6).1,(gY t x6).2⟩:aS)]).map aH=out'.map aH/\List.replicate (k+1) [bG.gone]++l6.map aD=List.replicate k' [bG.gone]++l2'.map aD/\(k' <=(bL t.arity).length/\l2' =(bL t.arity).drop k' /\out' =((bL t.arity).take k').map (wF t))/\(bL t.arity).length - k' <(bL t.arity).length - k) (t.name=((aX t).name)/\t.arity=((aX t).arity)/\(t.rows.length:Int)=((aX t).rowCount)/\out.map aH=(aX t).groups.map aH/\True)))))) (by kernel_rfl) ?_;refine lx fun n0=>?_;refine⟨xM t,dm (fun c0=>?_) fun c0=>?_⟩
 ·have hbad:aR t=false:=by simpa using c0
  apply et4<;>((rw[aAg hbad]<;>rfl))
 ·have hok:aR t=true:=by simpa using c0
  have hT:=bP hok;have hn:=xY (n:=t.arity) ⟨hT.1,hT.2.1⟩;refine⟨aAJ _,aOC t.arity (by omega),aAJ _,⟨0,bL t.arity,([]:List aS),rfl,rfl,rfl,rfl,rfl,rfl,aAU _,rfl,rfl⟩,fun k l2 out ⟨hk,hl,ho⟩=>?_⟩;have hlen:l2.length=(bL t.arity).length - k:=by rw[hl,aOs]
  refine dd (fun c1=>?_) fun c1=>?_
  ·refine⟨rfl,(by rw[hl];exact aMk (by omega)),fun x6 l6 t6=>?_⟩;have hdx:=hl.symm.trans t6;have hx:=aMm hdx;have hx3:=aAh hx;refine⟨by omega,by simp,by omega,rfl,rfl,rfl,aQQ t x6 (by omega),rfl,rfl,rfl,rfl,by (simp[ho];omega),⟨by omega,by omega⟩,?_⟩;exact⟨k+1,_,_,rfl,rfl,rfl,rfl,rfl,rfl,⟨by omega,aMl hdx,by rw[ho,bS hx,aGO];rfl⟩,by omega⟩
  ·apply et4<;>(first|(rw[iY hok]<;>rfl)|(rw[iY hok,ho,aCy (by omega)]))
abbrev zP (t:aP):AV × List (Nat × Rs):=(.agg [.p none (.str ((aX t).name)),vI ((aX t).arity),vI ((aX t).rowCount),.own 0],[(0,.arr 138 3 true ((aX t).groups.map aH))])
abbrev aCj (t:aP):Prop:=Cn 54 [.agg [.str t.name,.int .i64 t.arity,.sl 34 1 (t.rows.map aD)]] (zP t).1 (zP t).2
theorem aMn (t:aP):aCj t:=by
 refine cq Tryz.func54 (.call (vB (aR t)) []<| .br (.fin []) (.len t.rows.length<| cH (xX t.arity)<| .loop (Nat × (List (List Int)) × (List aS)) (Q3 Nat (List (List Int)) (List aS)) ([5,6,7]++rg 23 27) [300,2200,3500,3501,4700,4800,9000,50807] (fun yy0=>[(5,vI (yy0.1:Int))]) (fun yy0=>[(300,some (.box 91 [.p none (.str t.name),vI t.arity,vI (t.rows.length:Int),.own 9000])),(9000,some (.arr 138 3 true (yy0.2.2.map aH))),(2200,some (.arr 34 1 true (List.replicate yy0.1 [bG.gone]++yy0.2.1.map aD)))]) (fun yy0=>yy0.1<=(bL t.arity).length/\yy0.2.1=(bL t.arity).drop yy0.1/\yy0.2.2=((bL t.arity).take yy0.1).map (wF t)) (fun yy0=>(bL t.arity).length - yy0.1) (fun yy0=> .len (yy0.1+yy0.2.1.length)<| .br (.takeg 8 2200 yy0.1 50807 (List Int) aD yy0.2.1 (fun x8 l8=> .len (yy0.1+(l8.length+1))<| cH (aAf t x8)<| .len (yy0.1+(l8.length+1))<| .appx aS aH yy0.2.2 (⟨x8,(gY t x8).1,(gY t x8).2⟩:aS)<| .leave 7 2200 yy0.1 50807 (List Int) aD x8 l8 (.back [(300,300),(2200,2200),(9000,4800)]))) (.fin [(0,9000)])))) (p:=Lx (t.rows.map aD)<| oC t/\Nr (aR t) (ByteArray.empty=((aX t).name)/\0=((aX t).arity)/\0=((aX t).rowCount)/\[]=(aX t).groups.map aH/\True) (Lm aD t.rows/\(aDT t.arity/\((∃(k:Nat) (l2:List (List Int)) (out:List aS),0=(k:Int)/\t.name=t.name/\t.arity=t.arity/\(t.rows.length:Int)=(t.rows.length:Int)/\[]=out.map aH/\(bL t.arity).map aD=List.replicate k [bG.gone]++l2.map aD/\k<=(bL t.arity).length/\l2=(bL t.arity).drop k/\out=((bL t.arity).take k).map (wF t))/\ ∀(k:Nat) (l2:List (List Int)) (out:List aS),(k<=(bL t.arity).length/\l2=(bL t.arity).drop k/\out=((bL t.arity).take k).map (wF t))->(List.replicate k [bG.gone]++l2.map aD).length=k+l2.length/\Br ((k:Int)<((k+l2.length:Nat):Int)) (List.replicate k [bG.gone]++l2.map aD=List.replicate k [bG.gone]++l2.map aD/\l2≠[]/\ ∀x8 l8,l2=x8::l8->0<=(k:Int)/\(List.replicate k [bG.gone]++(x8::l8).map aD).length=k+(l8.length+1)/\(k:Int)<((k+(l8.length+1):Nat):Int)/\k=k/\aFJ t x8/\0<=(k:Int)/\(List.replicate k [bG.gone]++(x8::l8).map aD).length=k+(l8.length+1)/\(k:Int)<((k+(l8.length+1):Nat):Int)/\k=k/\out.map aH=out.map aH/\x8.map intD=(⟨x8,(gY t x8).1,(gY t x8).2⟩:aS).columns.map intD/\(gY t x8).1.map aD=(⟨x8,(gY t x8).1,(gY t x8).2⟩:aS).values.map aD/\(gY t x8).2.map intD=(⟨x8,(gY t x8).1,(gY t x8).2⟩:aS).counts.map intD/\(out.length+1)*72<=140737488355328/\List.replicate k [bG.gone]++(x8::l8).map aD=List.replicate k [bG.gone]++(x8::l8).map aD/\k=k/\bW ((k:Int)+1)/\ ∃(k' :Nat) (l2' :List (List Int)) (out' :List aS),((k:Int)+1)=(k' :Int)/\t.name=t.name/\t.arity=t.arity/\(t.rows.length:Int)=(t.rows.length:Int)/\(out++[(⟨x8,(gY t x8).1,(gY t x8).2⟩:aS)]).map aH=out'.map aH/\List.replicate (k+1) [bG.gone]++l8.map aD=List.replicate k' [bG.gone]++l2'.map aD/\(k' <=(bL t.arity).length/\l2' =(bL t.arity).drop k' /\out' =((bL t.arity).take k').map (wF t))/\(bL t.arity).length - k' <(bL t.arity).length - k) (t.name=((aX t).name)/\t.arity=((aX t).arity)/\(t.rows.length:Int)=((aX t).rowCount)/\out.map aH=(aX t).groups.map aH/\True))))) (by kernel_rfl) ?_;refine lx fun n0=>?_;refine⟨xN t,dm (fun c0=>?_) fun c0=>?_⟩
 ·have hbad:aR t=false:=by simpa using c0
  apply et4<;>((rw[aAg hbad]<;>rfl))
 ·have hok:aR t=true:=by simpa using c0
  have hT:=bP hok;have hn:=xY (n:=t.arity) ⟨hT.1,hT.2.1⟩;refine⟨aAJ _,aOD t.arity (by omega),⟨0,bL t.arity,([]:List aS),rfl,rfl,rfl,rfl,rfl,rfl,aAU _,rfl,rfl⟩,fun k l2 out ⟨hk,hl,ho⟩=>?_⟩;have hlen:l2.length=(bL t.arity).length - k:=by rw[hl,aOs]
  refine⟨by simp,dd (fun c1=>?_) fun c1=>?_⟩
  ·refine⟨rfl,(by rw[hl];exact aMk (by omega)),fun x8 l8 t8=>?_⟩;have hdx:=hl.symm.trans t8;have hx:=aMm hdx;have hx3:=aAh hx;refine⟨by omega,by simp,by omega,rfl,aQX t x8 (by omega),by omega,by simp,by omega,rfl,rfl,rfl,rfl,rfl,by (simp[ho];omega),rfl,rfl,⟨by omega,by omega⟩,?_⟩;exact⟨k+1,_,_,rfl,rfl,rfl,rfl,rfl,rfl,⟨by omega,aMl hdx,by rw[ho,bS hx,aGO];rfl⟩,by omega⟩
  ·apply et4<;>(first|(rw[iY hok]<;>rfl)|(rw[iY hok,ho,aCy (by omega)]))
abbrev aAi (x:aQ):AV × List (Nat × Rs):=(.agg [.p none (.str x.name),vI x.arity,vI x.rowCount,.own 0],[(0,.arr 138 3 true (x.groups.map aH))])
abbrev aFL (x:aQ):Prop:=Cn 138 [.agg [.str x.name,.int .i64 x.arity,.int .i64 x.rowCount,.sl 138 3 (x.groups.map aH)]] (aAi x).1 (aAi x).2
theorem aQY (x:aQ)(hc:dE x<=1048576):aFL x:=by
 refine cq Tryz.func138 (.len x.groups.length<| .loop (Nat × (List aS)) (Q2 Nat (List aS)) ([3,5,6]++rg 10 18) [500,600,1700,2000,2300,2500,2600] (fun yy0=>[(3,.own 600),(10,vI (yy0.1:Int))]) (fun yy0=>[(600,some (.arr 138 3 true (yy0.2.map aH)))]) (fun yy0=>yy0.1<=x.groups.length/\yy0.2=x.groups.take yy0.1) (fun yy0=>x.groups.length - yy0.1) (fun yy0=> .br (.elem _ aH x.groups (fun e12=>cH (aHO e12.columns)<| cH (aHP e12.values)<| cH (aHO e12.counts)<| .appx aS aH yy0.2 e12<| .back [(600,2600)])) (.fin [(0,600)]))) (p:=Lx (x.groups.map aH)<| Lm aH x.groups/\((∃(k:Nat) (out:List aS),0=(k:Int)/\[]=out.map aH/\k<=x.groups.length/\out=x.groups.take k)/\ ∀(k:Nat) (out:List aS),(k<=x.groups.length/\out=x.groups.take k)->Br ((k:Int)<(x.groups.length:Int)) (0<=(k:Int)/\Em aH x.groups k fun e12=>aJc e12.columns/\aJd e12.values/\aJc e12.counts/\out.map aH=out.map aH/\e12.columns.map intD=e12.columns.map intD/\e12.values.map aD=e12.values.map aD/\e12.counts.map intD=e12.counts.map intD/\(out.length+1)*72<=140737488355328/\bW ((k:Int)+1)/\ ∃(k' :Nat) (out' :List aS),((k:Int)+1)=(k' :Int)/\(out++[e12]).map aH=out'.map aH/\(k' <=x.groups.length/\out' =x.groups.take k')/\x.groups.length - k' <x.groups.length - k) (x.name=x.name/\x.arity=x.arity/\x.rowCount=x.rowCount/\out.map aH=x.groups.map aH/\True))) (by kernel_rfl) ?_;refine lx fun n0=>?_;have q2:dE x=x.name.size+iW x.groups:=rfl;have q5:=lH x.groups;refine⟨aAJ _,⟨0,([]:List aS),rfl,rfl,aAU _,rfl⟩,fun k out ⟨hk,ho⟩=>?_⟩;refine dd (fun c0=>?_) fun c0=>?_
 ·refine⟨by omega,rfl,by omega,fun e12 h12=>?_⟩;have q1:=kC h12;have q3:gZ e12=gT e12.columns+cV e12.values+gT e12.counts:=rfl;have q6:gT e12.columns=e12.columns.length:=rfl;have q7:gT e12.counts=e12.counts.length:=rfl;have q8:=iG e12.values;refine⟨cpI _ (by omega),cpR _ (by omega),cpI _ (by omega),rfl,rfl,rfl,rfl,by simp[ho];omega,⟨by omega,by omega⟩,?_⟩;exact⟨k+1,out++[e12],rfl,rfl,⟨by omega,by rw[ho,bS h12]⟩,by omega⟩
 ·refine⟨rfl,rfl,rfl,?_,trivial⟩
  ·rw[ho,aCy (by omega)]
def pS (x:aQ):List (List Int):=(x.groups.getD (x.groups.length - 1) aDM).values
def iH (x:aQ):aP:=⟨x.name,x.arity,pS x⟩
def dW (x:aQ):Bool:=aR (iH x)&&decide (aX (iH x)=x)
theorem aJq {x:aQ}{g:aS}(h:x.groups[x.groups.length - 1]? =some g):pS x=g.values:=by rw[pS,aT h]
theorem aOE {x:aQ}(h:x.groups.length=0):pS x= []:=by
 rw[pS,List.length_eq_zero_iff.1 h];rfl
abbrev uR (x:aQ):AV × List (Nat × Rs):=(.tup [.agg [.p none (.str ((iH x).name)),vI ((iH x).arity),.own 0],vB (dW x)],[(0,.arr 34 1 true ((iH x).rows.map aD))])
abbrev aBj (x:aQ):Prop:=Cn 193 [.agg [.str x.name,.int .i64 x.arity,.int .i64 x.rowCount,.sl 138 3 (x.groups.map aH)]] (uR x).1 (uR x).2
theorem aLY (x:aQ)(hc:dE x<=1048576):aBj x:=by
 refine cq Tryz.func193 (.len x.groups.length<| .br (.elem _ aH x.groups (fun e20=>cH (aHP e20.values)<| .call (vB (aR (⟨x.name,x.arity,e20.values⟩:aP))) []<| .br (cH (zO (⟨x.name,x.arity,e20.values⟩:aP))<| .call (vB (decide ((aX (⟨x.name,x.arity,e20.values⟩:aP))=x))) []<| .fin [(0,2300)]) (.fin [(0,2300)]))) (.call (vB (aR (⟨x.name,x.arity,([]:List (List Int))⟩:aP))) []<| .br (.call (.agg [.p none (.str ((aX (⟨x.name,x.arity,([]:List (List Int))⟩:aP)).name)),vI ((aX (⟨x.name,x.arity,([]:List (List Int))⟩:aP)).arity),vI ((aX (⟨x.name,x.arity,([]:List (List Int))⟩:aP)).rowCount),.own 0]) [(0,.arr 138 3 true (((aX (⟨x.name,x.arity,([]:List (List Int))⟩:aP)).groups).map aH))]<| .call (vB (decide ((aX (⟨x.name,x.arity,([]:List (List Int))⟩:aP))=x))) []<| .fin []) (.fin []))) (p:=Lx (x.groups.map aH)<| Lm aH x.groups/\Br (0<(x.groups.length:Int)) (bW ((x.groups.length:Int) - 1)/\0<=((x.groups.length:Int) - 1)/\Em aH x.groups (((x.groups.length:Int) - 1).toNat) fun e20=>aJd e20.values/\rA (⟨x.name,x.arity,e20.values⟩:aP)/\Bb (aR (⟨x.name,x.arity,e20.values⟩:aP)) (aCi (⟨x.name,x.arity,e20.values⟩:aP)/\nG (aX (⟨x.name,x.arity,e20.values⟩:aP)) x/\x.name=((iH x).name)/\x.arity=((iH x).arity)/\(decide ((aX (⟨x.name,x.arity,e20.values⟩:aP))=x))=(dW x)/\e20.values.map aD=(iH x).rows.map aD/\True) (x.name=((iH x).name)/\x.arity=((iH x).arity)/\(false)=(dW x)/\e20.values.map aD=(iH x).rows.map aD/\True)) (vX Tryz.prog 105 [.agg [.str x.name,.int .i64 x.arity,.sl 0 1 ([])]] (vB (aR (⟨x.name,x.arity,([]:List (List Int))⟩:aP))) []/\Bb (aR (⟨x.name,x.arity,([]:List (List Int))⟩:aP)) (vX Tryz.prog 51 [.agg [.str x.name,.int .i64 x.arity,.sl 0 1 ([])]] (.agg [.p none (.str ((aX (⟨x.name,x.arity,([]:List (List Int))⟩:aP)).name)),vI ((aX (⟨x.name,x.arity,([]:List (List Int))⟩:aP)).arity),vI ((aX (⟨x.name,x.arity,([]:List (List Int))⟩:aP)).rowCount),.own 0]) [(0,.arr 138 3 true (((aX (⟨x.name,x.arity,([]:List (List Int))⟩:aP)).groups).map aH))]/\nG (aX (⟨x.name,x.arity,([]:List (List Int))⟩:aP)) x/\x.name=((iH x).name)/\x.arity=((iH x).arity)/\(decide ((aX (⟨x.name,x.arity,([]:List (List Int))⟩:aP))=x))=(dW x)/\[]=(iH x).rows.map aD/\True) (x.name=((iH x).name)/\x.arity=((iH x).arity)/\(false)=(dW x)/\[]=(iH x).rows.map aD/\True))) (by kernel_rfl) ?_;refine lx fun n0=>?_;have q2:dE x=x.name.size+iW x.groups:=rfl;have q5:=lH x.groups;refine⟨aAJ _,dd (fun c0=>?_) fun c0=>?_⟩
 ·refine⟨⟨by omega,by omega⟩,by omega,rfl,by omega,fun e20 h20=>?_⟩;have i20:x.groups[x.groups.length - 1]? =some e20:=by rw[<-h20];congr 1;omega
  have hT:pS x=e20.values:=aJq i20;have q1:=kC i20;have q3:gZ e20=gT e20.columns+cV e20.values+gT e20.counts:=rfl;have q6:gT e20.columns=e20.columns.length:=rfl;have q7:gT e20.counts=e20.counts.length:=rfl;have q8:=iG e20.values;refine⟨cpR _ (by omega),xM (⟨x.name,x.arity,e20.values⟩:aP),db (fun g28=>?_) fun g28=>?_⟩
  ·refine⟨aIP (⟨x.name,x.arity,e20.values⟩:aP),uN _ _,?_,?_,?_,?_,trivial⟩<;>(first|(rw[iH,hT]<;>rfl)|(simp[dW,iH,hT, *];done))
  ·apply et4<;>(first|(rw[iH,hT]<;>rfl)|(simp[dW,iH,hT, *];done))
 ·have hT:pS x= []:=aOE (by omega);refine⟨vX.imp (fun A w vs h=>by simpa only [qQ,aKy,lQ,aJJ,List.map_nil] using h) (xM (⟨x.name,x.arity,([]:List (List Int))⟩:aP)),?_⟩;refine db (fun g28=>?_) fun g28=>?_
  ·refine⟨vX.imp (fun A w vs h=>by simpa only [qQ,aKy,lQ,aJJ,List.map_nil] using h) (aIP (⟨x.name,x.arity,([]:List (List Int))⟩:aP)),?_⟩;refine⟨uN _ _,?_,?_,?_,?_,trivial⟩<;>(first|(rw[iH,hT]<;>rfl)|(simp[dW,iH,hT, *];done))
  ·apply et4<;>(first|(rw[iH,hT]<;>rfl)|(simp[dW,iH,hT, *];done))
abbrev aFM (x:aQ):Prop:=Cn 169 [.agg [.str x.name,.int .i64 x.arity,.int .i64 x.rowCount,.sl 138 3 (x.groups.map aH)]] (vB (dW x)) []
theorem aQZ (x:aQ)(hc:dE x<=1048576):aFM x:=by
 refine cq Tryz.func169 (cH (uR x)<| .fin []) (p:=Lx (x.groups.map aH)<| aBj x/\(dW x)=(dW x)/\True) (by kernel_rfl) ?_;refine lx fun n0=>?_;refine⟨aLY x (by omega),?_⟩;exact⟨rfl,trivial⟩
theorem lA (a:List Int)(l:List (List Int)):cV (a::l)=cV l+1+a.length:=by
 simp only[cV,nA,gT,aGN,List.sum_cons,aHl];omega
theorem aJr (l:List (List Int)): ∀k,cV (l.take k)<=cV l:=by
 induction l with
 | nil=>intro k;simp
 | cons a l ih=>
   intro k;cases k with
   | zero=>rw[List.take_zero];exact aAU _
   | succ k=>rw[List.take_succ_cons,lA,lA];have:=ih k;omega
theorem aJs {row:List Int}: ∀{xs:List (List Int)},cV (kB row xs)<=cV xs+1+row.length
 | []=>by rw[aBd,lA];exact aKU _
 | x::xs=>by
   by_cases h:0<bT x row
   ·rw[aBe h,lA];omega
   by_cases h' :bT x row=0
   ·rw[aBf h'];omega
   rw[aBg h h',lA,lA];have:=aJs (row:=row) (xs:=xs);omega
theorem aMo {row:List Int}: ∀{xs:List (List Int)},xs.length<=(kB row xs).length
 | []=>by simp
 | x::xs=>by
   by_cases h:0<bT x row
   ·rw[aBe h];simp
   by_cases h' :bT x row=0
   ·rw[aBf h'];simp
   rw[aBg h h'];have:=aMo (row:=row) (xs:=xs);simp only[aHl];omega
theorem aJt (l:List (List Int)): ∀acc,cV (l.foldl (fun acc x=>kB x acc) acc)<=cV acc+cV l/\acc.length<=(l.foldl (fun acc x=>kB x acc) acc).length:=by
 induction l with
 | nil=>intro acc;simp
 | cons x l ih=>
   intro acc;obtain⟨h1,h2⟩:=ih (kB x acc);have h3:=aJs (row:=x) (xs:=acc);have h4:=aMo (row:=x) (xs:=acc);rw[List.foldl_cons,lA];exact⟨by omega,by omega⟩
theorem aJu (l:List (List Int))(k:Nat):cV (cB (l.take k))<=cV l:=by
 have h1:=(aJt (l.take k) []).1;have h2:=aJr l k;have h3:cV ([]:List (List Int))=0:=rfl;unfold cB;omega
theorem aIQ (l:List (List Int))(k:Nat):(cB (l.take k)).length<=(cB l).length:=by
 have h:=(aJt (l.drop k) (cB (l.take k))).2
 have e:cB l=(l.drop k).foldl (fun acc x=>kB x acc) (cB (l.take k)):=by
  unfold cB;rw[<-List.foldl_append,List.take_append_drop]
 rw[e];exact h
def mX (name:ByteArray)(arity:Int)(rows:List (List Int)):aP × Bool:=if aR ⟨name,arity,cB rows⟩=true then (⟨name,arity,cB rows⟩,true) else (mI,false)
theorem tL {name:ByteArray}{arity:Int}{rows:List (List Int)}(h:aR ⟨name,arity,cB rows⟩=true):mX name arity rows=(⟨name,arity,cB rows⟩,true):=by rw[mX,if_pos h]
theorem aIR {name:ByteArray}{arity:Int}{rows:List (List Int)}(h:aR ⟨name,arity,cB rows⟩=false):mX name arity rows=(mI,false):=by rw[mX,if_neg (by rw[h];decide)]
theorem aDU {t:aP}(h:8<t.rows.length):aR t=false:=by
 cases e:aR t with
 | false=>rfl
 | true=>have:=bP e;omega
theorem aJv {name:ByteArray}{arity:Int}{rows:List (List Int)}{k:Nat}{acc:List (List Int)}(ha:acc=cB (rows.take k))(h:rows.length<=k\/8<acc.length):aR ⟨name,arity,acc⟩=aR ⟨name,arity,cB rows⟩/\(aR ⟨name,arity,acc⟩=true->acc=cB rows):=by
 by_cases h1:8<acc.length
 ·have h2:=aIQ rows k;rw[<-ha] at h2;have q1:=aDU (t:=⟨name,arity,acc⟩) h1;rw[q1,aDU (t:=⟨name,arity,cB rows⟩) (show 8<(cB rows).length by omega)];exact⟨rfl,fun q=>by cases q⟩
 have e:acc=cB rows:=by rw[ha,aCy (by omega)]
 rw[e];exact⟨rfl,fun _=>rfl⟩
theorem aQ0: ∀{l:List (List Int)},(∀i,i+1<l.length->bT (l.getD i []) (l.getD (i+1) [])<0)->Asc l
 | [],_=>List.Pairwise.nil
 | [a],_=>List.pairwise_singleton _ _
 | a::b::l,h=>by
   have ih:=aQ0 (l:=b::l) fun i hi=>by
    have:=h (i+1) (by simpa using hi);simpa using this
   have h0:bT a b<0:=by
    have:=h 0 (by simp);simpa using this
   refine List.pairwise_cons.2 ⟨fun y hy=>?_,ih⟩;rcases aG7.1 hy with rfl | q
   ·exact h0
   exact mJ h0 ((List.pairwise_cons.1 ih).1 y q)
theorem aFN {l:List (List Int)}(h:aCd l=true):Asc l:=aQ0 fun i hi=>by
 have:=aDP.1 h i (aJg.2 (by omega));simpa [mC] using this
theorem kH {t:aP}(h:aR t=true):t.rows.all (jG t.arity)=true/\fF t.name=true/\aCd t.rows=true:=by
 simp only[aR,aAS] at h;exact⟨h.1,h.2.1,h.2.2.2.2⟩
theorem aDV {l:List (List Int)}(h:Asc l):cB l=l:=by
 obtain⟨h1,h2,_⟩:=xS l [] List.Pairwise.nil;exact aIM h1 h fun x=>by have:=h2 x;simpa [cB] using this
theorem kM {t:aP}(h:aR t=true){r:List Int}(hr:r∈t.rows):(r.length:Int)=t.arity:=by
 have:=aDP.1 (kH h).1 r hr;simp only[jG,aAS,aLF] at this;exact this.2
def aLZ (n:Int):List Int:=pF ((2:Int)^n.toNat - 1)
theorem aSs {n:Int}(hn:1<=n/\n<=3){r:List Int}(h:(r.length:Int)=n):(gB r (aLZ n)).1=r:=by
 have h1:n=1\/n=2\/n=3:=by omega
 rcases h1 with rfl | rfl | rfl
 ·match r,h with
  | [a],_=>rfl
  | [],h=>simp at h
  | _::_::_,h=>simp at h;omega
 ·match r,h with
  | [a,b],_=>rfl
  | [],h=>simp at h
  | [_],h=>simp at h
  | _::_::_::_,h=>simp at h;omega
 match r,h with
 | [a,b,c],_=>rfl
 | [],h=>simp at h
 | [_],h=>simp at h
 | [_,_],h=>simp at h
 | _::_::_::_::_,h=>simp at h;omega
theorem aQ1 {n:Int}(hn:1<=n/\n<=3):dI (n - 1) (aLZ n)=true:=by
 have h1:n=1\/n=2\/n=3:=by omega
 rcases h1 with rfl | rfl | rfl<;>decide
theorem aIS {n:Int}(hn:1<=n/\n<=3):0<(bL n).length/\(bL n)[(bL n).length - 1]? =some (aLZ n):=by
 have h1:n=1\/n=2\/n=3:=by omega
 rcases h1 with rfl | rfl | rfl<;>decide
theorem aQ2 {t:aP}(h:aR t=true):(gY t (aLZ t.arity)).1=t.rows:=by
 have hT:=bP h;have hc:=aQ1 (n:=t.arity) ⟨hT.1,hT.2.1⟩;rw[tK (by rw[h,hc];rfl)]
 have e:kR t (aLZ t.arity)=t.rows:=by
  rw[kR]
  conv=>rhs;rw[<-List.map_id t.rows]
  exact List.map_congr_left fun r hr=>aSs ⟨hT.1,hT.2.1⟩ (kM h hr)
 show fG (cQ (kR t (aLZ t.arity)))=t.rows;rw[e,<-xT,aDV (aFN (kH h).2.2)]
theorem xZ {t:aP}(h:aR t=true):pS (aX t)=t.rows/\(aX t).groups≠[]:=by
 have hT:=bP h;obtain⟨h0,h1⟩:=aIS (n:=t.arity) ⟨hT.1,hT.2.1⟩;rw[iY h];constructor
 ·rw[pS];show (((bL t.arity).map (wF t)).getD (((bL t.arity).map (wF t)).length - 1) aDM).values=t.rows;rw[aAJ,aT (x:=wF t (aLZ t.arity)) (by rw[aOz,h1];rfl)];exact aQ2 h
 intro e;have:((bL t.arity).map (wF t)).length=0:=congrArg List.length e;rw[aAJ] at this;omega
def nI (x:aQ):aP × Bool:=if x.groups.length=0 then (mI,false) else mX x.name x.arity (pS x)
theorem aSt {x:aQ}(h:dW x=true):nI x=(iH x,true):=by
 simp only[dW,aAS,aLF] at h;have h2:=(xZ h.1).2;rw[h.2] at h2;rw[nI,if_neg (fun e=>h2 (aFh e))];have e:=aDV (aFN (kH h.1).2.2);rw[show (iH x).rows=pS x from rfl] at e;rw[tL (by rw[e];exact h.1),e];rfl
theorem aOF (x:aQ):((nI x).2&&decide (aX (nI x).1=x))=dW x:=by
 cases h:dW x with
 | true=>
   rw[aSt h];simp only[dW,aAS,aLF] at h;simp[h.2]
 | false=>
   rw[nI];split
   ·rfl
   cases e:aR ⟨x.name,x.arity,cB (pS x)⟩ with
   | false=>rw[aIR e];rfl
   | true=>
     rw[tL e];simp only[Bool.true_and];by_cases q:aX ⟨x.name,x.arity,cB (pS x)⟩=x
     ·exfalso;have h3:=(xZ e).1;rw[q] at h3
      have h4:iH x=⟨x.name,x.arity,cB (pS x)⟩:=by
       rw[iH]
       congr 1
      rw[dW,h4,e,q] at h;simp at h
     simp[q]
theorem aIT {α:Type}{p:α->Bool}{l:List α}{k:Nat}{x:α}(h:l[k]? =some x)(ha:(l.take k).all (fun y=> !p y)=true)(hx:p x=true):l.find? p=some x:=by
 rw[List.find?_eq_some_iff_getElem];obtain⟨hk,rfl⟩:=aCx.1 h;refine⟨hx,k,hk,rfl,fun j hj=>?_⟩;have:=aDP.1 ha l[j] (List.mem_iff_getElem.2 ⟨j,by simp;omega,by simp⟩);exact this
theorem aIU {α:Type}{p:α->Bool}{l:List α}(ha:l.all (fun y=> !p y)=true):l.find? p=none:=by
 rw[List.find?_eq_none];intro x hx;have:=aDP.1 ha x hx;simpa using this
def fX (l:List aP)(i:Nat):Bool:=Op.bytesLess (l.getD i mI).name.toList (l.getD (i+1) mI).name.toList
def iI (d:aL):Bool:=d.tables.all aR&&((List.range (d.tables.length - 1)).all (fX d.tables)&&decide ((d.tables.length:Int)<=6))
abbrev aCk (t:aL):Prop:=Cn 49 [.agg [.sl 88 3 (t.tables.map aG)]] (vB (iI t)) []
theorem aMp (t:aL):aCk t:=by
 refine cq Tryz.func49 (.len t.tables.length<| .loop Nat (Q1 Nat) ([3,4]++rg 8 25) [400] (fun k=>[(8,vI (k:Int))]) (fun k=>[]) (fun k=>k<=t.tables.length/\(t.tables.take k).all aR=true/\(List.range (k - 1)).all (fX t.tables)=true) (fun k=>t.tables.length - k) (fun k=> .br (.elem _ aG t.tables (fun e11=> .call (vB (aR e11)) []<| .br (.fin []) (.lit<| .lit<| .br (.elem _ aG t.tables (fun e24=> .lit<| .lit<| .lit<| .lit<| .lit<| .lit<| .lit<| .lit<| .br (.fin []) (.back []))) (.back [])))) (.len t.tables.length<| .fin []))) (p:=Lx (t.tables.map aG)<| Lm aG t.tables/\((∃(k:Nat),0=(k:Int)/\k<=t.tables.length/\(t.tables.take k).all aR=true/\(List.range (k - 1)).all (fX t.tables)=true)/\ ∀(k:Nat),(k<=t.tables.length/\(t.tables.take k).all aR=true/\(List.range (k - 1)).all (fX t.tables)=true)->Br ((k:Int)<(t.tables.length:Int)) (0<=(k:Int)/\Em aG t.tables k fun e11=>rA e11/\Nr (aR e11) ((false)=(iI t)/\True) (Br (0<(k:Int)) (bW ((k:Int) - 1)/\0<=((k:Int) - 1)/\Em aG t.tables (((k:Int) - 1).toNat) fun e24=>Nr (Op.bytesLess e24.name.toList e11.name.toList) ((false)=(iI t)/\True) (bW ((k:Int)+1)/\ ∃(k' :Nat),((k:Int)+1)=(k' :Int)/\(k' <=t.tables.length/\(t.tables.take k').all aR=true/\(List.range (k' - 1)).all (fX t.tables)=true)/\t.tables.length - k' <t.tables.length - k)) (bW ((k:Int)+1)/\ ∃(k' :Nat),((k:Int)+1)=(k' :Int)/\(k' <=t.tables.length/\(t.tables.take k').all aR=true/\(List.range (k' - 1)).all (fX t.tables)=true)/\t.tables.length - k' <t.tables.length - k))) (Lm aG t.tables/\(decide ((t.tables.length:Int)<=6))=(iI t)/\True))) (by kernel_rfl) ?_;refine lx fun n0=>?_;refine⟨aAJ _,⟨0,rfl,aAU _,rfl,rfl⟩,fun k ⟨hk,ha,hs⟩=>?_⟩;refine dd (fun c0=>?_) fun c0=>?_
 ·refine⟨by omega,rfl,by omega,fun e11 h11=>?_⟩;refine⟨xM e11,dm (fun g16=>?_) fun g16=>?_⟩
  ·apply et1
   ·(rw[iI,fP h11 g16];rfl)
  ·refine dd (fun g19=>?_) fun g19=>?_
   ·refine⟨⟨by omega,by omega⟩,by omega,rfl,by omega,fun e24 h24=>?_⟩;have i1:t.tables[k - 1]? =some e24:=by rw[<-h24];congr 1;omega
    refine dm (fun c1=>?_) fun c1=>?_
    ·have hp:fX t.tables (k - 1)=false:=by rw[fX,aT i1,show k - 1+1=k by omega,aT h11];simpa using c1
     have hz:(List.range (t.tables.length - 1)).all (fX t.tables)=false:=gP (by omega) hp;apply et1
     ·(rw[iI,hz];simp[*];done)
    ·have hp:fX t.tables (k - 1)=true:=by rw[fX,aT i1,show k - 1+1=k by omega,aT h11];simpa using c1
     have hs2:(List.range (k+1 - 1)).all (fX t.tables)=true:=by rw[show k+1 - 1=(k - 1)+1 by omega];exact jE hs hp
     refine⟨⟨by omega,by omega⟩,?_⟩;exact⟨k+1,rfl,⟨by omega,cI h11 ha g16,hs2⟩,by omega⟩
   ·have hs2:(List.range (k+1 - 1)).all (fX t.tables)=true:=by rw[show k=0 by omega];rfl
    refine⟨⟨by omega,by omega⟩,?_⟩;exact⟨k+1,rfl,⟨by omega,cI h11 ha g16,hs2⟩,by omega⟩
 ·have hall:=cK (by omega) ha;have hz:(List.range (t.tables.length - 1)).all (fX t.tables)=true:=by rw[show t.tables.length - 1=k - 1 by omega,hs]
  refine⟨aAJ _,?_,trivial⟩
  ·(rw[iI,hz];simp[*];done)
abbrev aCl (t:aL):Prop:=Cn 52 [.agg [.sl 88 3 (t.tables.map aG)]] (vB (iI t)) []
theorem aMq (t:aL):aCl t:=by
 refine cq Tryz.func52 (.loop Nat (Q1 Nat) (rg 3 35) [] (fun k=>[(3,vI (k:Int))]) (fun k=>[]) (fun k=>k<=t.tables.length/\(t.tables.take k).all aR=true/\(List.range (k - 1)).all (fX t.tables)=true) (fun k=>t.tables.length - k) (fun k=> .len t.tables.length<| .br (.elem _ aG t.tables (fun e14=> .call (vB (aR e14)) []<| .br (.fin []) (.lit<| .lit<| .br (.elem _ aG t.tables (fun e26=> .elem _ aG t.tables (fun e32=> .lit<| .lit<| .lit<| .lit<| .lit<| .lit<| .br (.fin []) (.back [])))) (.back [])))) (.len t.tables.length<| .fin []))) (p:=Lx (t.tables.map aG)<| (∃(k:Nat),0=(k:Int)/\k<=t.tables.length/\(t.tables.take k).all aR=true/\(List.range (k - 1)).all (fX t.tables)=true)/\ ∀(k:Nat),(k<=t.tables.length/\(t.tables.take k).all aR=true/\(List.range (k - 1)).all (fX t.tables)=true)->Lm aG t.tables/\Br ((k:Int)<(t.tables.length:Int)) (0<=(k:Int)/\Em aG t.tables k fun e14=>oC e14/\Nr (aR e14) ((false)=(iI t)/\True) (Br (0<(k:Int)) (bW ((k:Int) - 1)/\0<=((k:Int) - 1)/\Em aG t.tables (((k:Int) - 1).toNat) fun e26=>0<=(k:Int)/\Em aG t.tables k fun e32=>Nr (Op.bytesLess e26.name.toList e32.name.toList) ((false)=(iI t)/\True) (bW ((k:Int)+1)/\ ∃(k' :Nat),((k:Int)+1)=(k' :Int)/\(k' <=t.tables.length/\(t.tables.take k').all aR=true/\(List.range (k' - 1)).all (fX t.tables)=true)/\t.tables.length - k' <t.tables.length - k)) (bW ((k:Int)+1)/\ ∃(k' :Nat),((k:Int)+1)=(k' :Int)/\(k' <=t.tables.length/\(t.tables.take k').all aR=true/\(List.range (k' - 1)).all (fX t.tables)=true)/\t.tables.length - k' <t.tables.length - k))) (Lm aG t.tables/\(decide ((t.tables.length:Int)<=6))=(iI t)/\True)) (by kernel_rfl) ?_;refine lx fun n0=>?_;refine⟨⟨0,rfl,aAU _,rfl,rfl⟩,fun k ⟨hk,ha,hs⟩=>?_⟩;refine⟨aAJ _,dd (fun c0=>?_) fun c0=>?_⟩
 ·refine⟨by omega,rfl,by omega,fun e14 h14=>?_⟩;refine⟨xN e14,dm (fun g18=>?_) fun g18=>?_⟩
  ·apply et1
   ·(rw[iI,fP h14 g18];rfl)
  ·refine dd (fun g21=>?_) fun g21=>?_
   ·refine⟨⟨by omega,by omega⟩,by omega,rfl,by omega,fun e26 h26=>?_⟩;have i1:t.tables[k - 1]? =some e26:=by rw[<-h26];congr 1;omega
    refine⟨by omega,rfl,by omega,fun e32 h32=>?_⟩;refine dm (fun c1=>?_) fun c1=>?_
    ·have hp:fX t.tables (k - 1)=false:=by rw[fX,aT i1,show k - 1+1=k by omega,aT h32];simpa using c1
     have hz:(List.range (t.tables.length - 1)).all (fX t.tables)=false:=gP (by omega) hp;apply et1
     ·(rw[iI,hz];simp[*];done)
    ·have hp:fX t.tables (k - 1)=true:=by rw[fX,aT i1,show k - 1+1=k by omega,aT h32];simpa using c1
     have hs2:(List.range (k+1 - 1)).all (fX t.tables)=true:=by rw[show k+1 - 1=(k - 1)+1 by omega];exact jE hs hp
     refine⟨⟨by omega,by omega⟩,?_⟩;exact⟨k+1,rfl,⟨by omega,cI h14 ha g18,hs2⟩,by omega⟩
   ·have hs2:(List.range (k+1 - 1)).all (fX t.tables)=true:=by rw[show k=0 by omega];rfl
    refine⟨⟨by omega,by omega⟩,?_⟩;exact⟨k+1,rfl,⟨by omega,cI h14 ha g18,hs2⟩,by omega⟩
 ·have hall:=cK (by omega) ha;have hz:(List.range (t.tables.length - 1)).all (fX t.tables)=true:=by rw[show t.tables.length - 1=k - 1 by omega,hs]
  refine⟨aAJ _,?_,trivial⟩
  ·(rw[iI,hz];simp[*];done)
def dJ (d:aL)(v:Int):dH × Bool:=if (iI d&&dV v 1 999)=true then (⟨v,d.tables.map aX⟩,true) else (aAa,false)
theorem oF {d:aL}{v:Int}(h:(iI d&&dV v 1 999)=true):dJ d v=(⟨v,d.tables.map aX⟩,true):=by rw[dJ,if_pos h]
theorem rG {d:aL}{v:Int}(h:(iI d&&dV v 1 999)=false):dJ d v=(aAa,false):=by rw[dJ,if_neg (by rw[h];decide)]
theorem aFO {d:aL}(h:iI d=true):d.tables.length<=6:=by
 simp only[iI,aAS,aLF] at h;omega
abbrev aAj (d:aL)(v:Int):AV × List (Nat × Rs):=(.tup [.agg [vI ((dJ d v).1.version),.own 0],vB ((dJ d v).2)],[(0,.arr 91 4 true ((dJ d v).1.tables.map aB))])
abbrev aFP (d:aL)(v:Int):Prop:=Cn 17 [.agg [.sl 88 3 (d.tables.map aG)],.one (.int .i64 v)] (aAj d v).1 (aAj d v).2
theorem aQ3 (d:aL)(v:Int):aFP d v:=by
 refine cq Tryz.func17 (.call (vB (iI d)) []<| .br (.fin []) (.call (vB (dV v (1:Int) (999:Int))) []<| .lit<| .lit<| .br (.fin []) (.len d.tables.length<| .loop (Nat × (List aQ)) (Q2 Nat (List aQ)) ([8]++rg 23 12) [600,800,3000,3100,3200,9000] (fun yy0=>[(23,vI (yy0.1:Int))]) (fun yy0=>[(600,some (.box 29 [vI v,.own 9000])),(9000,some (.arr 91 4 true (yy0.2.map aB)))]) (fun yy0=>yy0.1<=d.tables.length/\yy0.2=(d.tables.take yy0.1).map aX) (fun yy0=>d.tables.length - yy0.1) (fun yy0=> .br (.elem _ aG d.tables (fun e25=>cH (zO e25)<| .appx aQ aB yy0.2 (aX e25)<| .back [(600,600),(9000,3200)])) (.fin [(0,9000)]))))) (p:=Lx (d.tables.map aG)<| aCk d/\Nr (iI d) (0=((dJ d v).1.version)/\(false)=((dJ d v).2)/\[]=(dJ d v).1.tables.map aB/\True) (eW v (1:Int) (999:Int)/\Nr (dV v (1:Int) (999:Int)) (0=((dJ d v).1.version)/\(false)=((dJ d v).2)/\[]=(dJ d v).1.tables.map aB/\True) (Lm aG d.tables/\((∃(k:Nat) (out:List aQ),0=(k:Int)/\v=v/\[]=out.map aB/\k<=d.tables.length/\out=(d.tables.take k).map aX)/\ ∀(k:Nat) (out:List aQ),(k<=d.tables.length/\out=(d.tables.take k).map aX)->Br ((k:Int)<(d.tables.length:Int)) (0<=(k:Int)/\Em aG d.tables k fun e25=>aCi e25/\out.map aB=out.map aB/\((aX e25).name)=((aX e25).name)/\((aX e25).arity)=((aX e25).arity)/\((aX e25).rowCount)=((aX e25).rowCount)/\(aX e25).groups.map aH=(aX e25).groups.map aH/\(out.length+1)*56<=140737488355328/\bW ((k:Int)+1)/\ ∃(k' :Nat) (out' :List aQ),((k:Int)+1)=(k' :Int)/\v=v/\(out++[(aX e25)]).map aB=out'.map aB/\(k' <=d.tables.length/\out' =(d.tables.take k').map aX)/\d.tables.length - k' <d.tables.length - k) (v=((dJ d v).1.version)/\(true)=((dJ d v).2)/\out.map aB=(dJ d v).1.tables.map aB/\True))))) (by kernel_rfl) ?_;refine lx fun n0=>?_;refine⟨aMp d,dm (fun g12=>?_) fun g12=>?_⟩
 ·have hbad:(iI d&&dV v 1 999)=false:=by simp_all
  apply et3<;>((rw[rG hbad]<;>rfl))
 ·refine⟨jJ _ _ _,dm (fun c0=>?_) fun c0=>?_⟩
  ·have hbad:(iI d&&dV v 1 999)=false:=by simp_all
   apply et3<;>((rw[rG hbad]<;>rfl))
  ·have hok:(iI d&&dV v 1 999)=true:=by simp_all
   have h6:=aFO (by simp_all:iI d=true);refine⟨aAJ _,⟨0,([]:List aQ),rfl,rfl,rfl,aAU _,rfl⟩,fun k out ⟨hk,ho⟩=>?_⟩;refine dd (fun c1=>?_) fun c1=>?_
   ·refine⟨by omega,rfl,by omega,fun e25 h25=>?_⟩;refine⟨aIP e25,rfl,rfl,rfl,rfl,rfl,by (simp[ho];omega),⟨by omega,by omega⟩,?_⟩;exact⟨k+1,_,rfl,rfl,rfl,⟨by omega,by rw[ho,bS h25,aGO];rfl⟩,by omega⟩
   ·apply et3<;>(first|(rw[oF hok]<;>rfl)|(rw[oF hok,ho,aCy (by omega)]))
abbrev uS (d:aL)(v:Int):AV × List (Nat × Rs):=(.tup [.agg [vI ((dJ d v).1.version),.own 0],vB ((dJ d v).2)],[(0,.arr 91 4 true ((dJ d v).1.tables.map aB))])
abbrev aAk (d:aL)(v:Int):Prop:=Cn 18 [.agg [.sl 88 3 (d.tables.map aG)],.one (.int .i64 v)] (uS d v).1 (uS d v).2
theorem aJw (d:aL)(v:Int):aAk d v:=by
 refine cq Tryz.func18 (.call (vB (iI d)) []<| .br (.fin []) (.call (vB (dV v (1:Int) (999:Int))) []<| .lit<| .lit<| .br (.fin []) (.loop (Nat × (List aQ)) (Q2 Nat (List aQ)) ([7,8]++rg 20 19) [600,800,3200,3600,3700,9000] (fun yy0=>[(7,vI (yy0.1:Int))]) (fun yy0=>[(600,some (.box 29 [vI v,.own 9000])),(9000,some (.arr 91 4 true (yy0.2.map aB)))]) (fun yy0=>yy0.1<=d.tables.length/\yy0.2=(d.tables.take yy0.1).map aX) (fun yy0=>d.tables.length - yy0.1) (fun yy0=> .len d.tables.length<| .br (.elem _ aG d.tables (fun e30=>cH (zP e30)<| .appx aQ aB yy0.2 (aX e30)<| .back [(600,600),(9000,3700)])) (.fin [(0,9000)]))))) (p:=Lx (d.tables.map aG)<| aCl d/\Nr (iI d) (0=((dJ d v).1.version)/\(false)=((dJ d v).2)/\[]=(dJ d v).1.tables.map aB/\True) (dZ v (1:Int) (999:Int)/\Nr (dV v (1:Int) (999:Int)) (0=((dJ d v).1.version)/\(false)=((dJ d v).2)/\[]=(dJ d v).1.tables.map aB/\True) ((∃(k:Nat) (out:List aQ),0=(k:Int)/\v=v/\[]=out.map aB/\k<=d.tables.length/\out=(d.tables.take k).map aX)/\ ∀(k:Nat) (out:List aQ),(k<=d.tables.length/\out=(d.tables.take k).map aX)->Lm aG d.tables/\Br ((k:Int)<(d.tables.length:Int)) (0<=(k:Int)/\Em aG d.tables k fun e30=>aCj e30/\out.map aB=out.map aB/\((aX e30).name)=((aX e30).name)/\((aX e30).arity)=((aX e30).arity)/\((aX e30).rowCount)=((aX e30).rowCount)/\(aX e30).groups.map aH=(aX e30).groups.map aH/\(out.length+1)*56<=140737488355328/\bW ((k:Int)+1)/\ ∃(k' :Nat) (out' :List aQ),((k:Int)+1)=(k' :Int)/\v=v/\(out++[(aX e30)]).map aB=out'.map aB/\(k' <=d.tables.length/\out' =(d.tables.take k').map aX)/\d.tables.length - k' <d.tables.length - k) (v=((dJ d v).1.version)/\(true)=((dJ d v).2)/\out.map aB=(dJ d v).1.tables.map aB/\True)))) (by kernel_rfl) ?_;refine lx fun n0=>?_;refine⟨aMq d,dm (fun g12=>?_) fun g12=>?_⟩
 ·have hbad:(iI d&&dV v 1 999)=false:=by simp_all
  apply et3<;>((rw[rG hbad]<;>rfl))
 ·refine⟨gX _ _ _,dm (fun c0=>?_) fun c0=>?_⟩
  ·have hbad:(iI d&&dV v 1 999)=false:=by simp_all
   apply et3<;>((rw[rG hbad]<;>rfl))
  ·have hok:(iI d&&dV v 1 999)=true:=by simp_all
   have h6:=aFO (by simp_all:iI d=true);refine⟨⟨0,([]:List aQ),rfl,rfl,rfl,aAU _,rfl⟩,fun k out ⟨hk,ho⟩=>?_⟩;refine⟨aAJ _,dd (fun c1=>?_) fun c1=>?_⟩
   ·refine⟨by omega,rfl,by omega,fun e30 h30=>?_⟩;refine⟨aMn e30,rfl,rfl,rfl,rfl,rfl,by (simp[ho];omega),⟨by omega,by omega⟩,?_⟩;exact⟨k+1,_,rfl,rfl,rfl,⟨by omega,by rw[ho,bS h30,aGO];rfl⟩,by omega⟩
   ·apply et3<;>(first|(rw[oF hok]<;>rfl)|(rw[oF hok,ho,aCy (by omega)]))
end Go.Proofs.YtafmaholhcgakaaGreat
