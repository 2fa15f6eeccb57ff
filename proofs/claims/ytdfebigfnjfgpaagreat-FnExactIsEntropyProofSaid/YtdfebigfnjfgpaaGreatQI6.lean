/-
  Contracts and plain laws, joined: part 7.
-/
import Derived.Test.YtdfebigfnjfgpaaGreatQI5
import Derived.Lib.SlicesCompact
import Derived.Lib.SliceRun
import Derived.Sort.WalkB12
import Derived.Lib.Walk
import Derived.Shelf.SlicesE.Kit
import Derived.Deep.LoopGhost
import Derived.Shelf.SlSortCmp.Insertion
namespace Go.Proofs.YtdfebigfnjfgpaaGreat
open Go.ChangeShapes Go.WideShapes Go.ChangeAt Go.RowKit Go.Shelf Go.Lib
set_option linter.unusedVariables false
set_option linter.unusedSimpArgs false
section
variable (eq:Nat→Nat→Bool)
def nE (d:Array Nat) (j:Nat):Bool:=decide (j=0) || !eq d[j]! d[j - 1]!
def nF (d:Array Nat) (m:Nat):List Nat:=((List.range m).filter (nE eq d)).map (d[·]!)
theorem aIe (d:Array Nat): ∀j,j<1→nE eq d j=true:=by
 intro j hj
 obtain rfl:j=0:=by omega
 simp [nE]
theorem aIf {d:Array Nat} {m:Nat} (h:eq d[m]! d[m - 1]! =false):nE eq d m=true:=by simp [nE,h]
theorem aIg {d:Array Nat} {m:Nat} (hm:0<m) (h:eq d[m]! d[m - 1]! =true):nE eq d m=false:=by
 have:m≠0:=by omega
 simp [nE,h,this]
theorem oW (d:Array Nat) (m:Nat):nF eq d (m+1)=nF eq d m++(if nE eq d m=true then [d[m]!] else []):=by
 unfold nF
 rw [List.range_succ,List.filter_append,List.map_append]
 congr 1
 by_cases h:nE eq d m=true<;>simp [h]
theorem aDG (d:Array Nat) (m:Nat) (h: ∀j,j<m→nE eq d j=true):nF eq d m=(List.range m).map (d[·]!):=by
 unfold nF
 rw [List.filter_eq_self.2 (fun j hj=>h j (List.mem_range.1 hj))]
theorem aKq (d:Array Nat) (h: ∀j,j<d.size→nE eq d j=true):nF eq d d.size=d.toList:=by
 rw [aDG eq d _ h]
 exact range_map_get d
structure tU (d:Array Nat) (m k:Nat) (dk:Array Nat):Prop where
 size:dk.size=d.size
 len:(nF eq d m).length=k
 lt:k<m
 low: ∀j,j<k→(nF eq d m)[j]? =some dk[j]!
 high: ∀j,k≤j→dk[j]! =d[j]!
variable {eq}
theorem tU.start {d:Array Nat} {k0:Nat} (hall: ∀j,j<k0→nE eq d j=true) (hdup:nE eq d k0=false):tU eq d (k0+1) k0 d where
 size:=rfl
 len:=by rw [oW,hdup,aDG eq d k0 hall];simp
 lt:=Nat.lt_succ_self _
 low:=fun j hj=>by rw [oW,hdup,aDG eq d k0 hall];simp [hj]
 high:=fun _ _=>rfl
theorem tU.keep {d dk:Array Nat} {m k:Nat} (h:tU eq d m k dk) (hm:m<d.size) (hk:nE eq d m=true):tU eq d (m+1) (k+1) (dk.setIfInBounds k d[m]!) where
 size:=by simp [h.size]
 len:=by rw [oW,hk];simp [h.len]
 lt:=by have:=h.lt;omega
 low:=fun j hj=>by
  rw [oW,hk,if_pos rfl]
  by_cases e:j=k
  ·subst e
   rw [List.getElem?_append_right (by rw [h.len];exact Nat.le_refl _),h.len,Nat.sub_self,Go.Sort.getElem!_set_same dk j _ (by have:=h.lt;have:=h.size;omega)]
   rfl
  ·rw [List.getElem?_append_left (by rw [h.len];omega),h.low j (by omega),Go.Sort.getElem!_set_other dk k j _ e]
 high:=fun j hj=>by rw [Go.Sort.getElem!_set_other dk k j _ (by omega),h.high j (by omega)]
theorem tU.skip {d dk:Array Nat} {m k:Nat} (h:tU eq d m k dk) (hk:nE eq d m=false):tU eq d (m+1) k dk where
 size:=h.size
 len:=by rw [oW,hk];simpa using h.len
 lt:=by have:=h.lt;omega
 low:=fun j hj=>by rw [oW,hk];simpa using h.low j hj
 high:=h.high
theorem tU.done {d dk:Array Nat} {k:Nat} (h:tU eq d d.size k dk) (z:Nat):
 lay dk k (List.replicate (d.size - k) z)=(nF eq d d.size++List.replicate (d.size - k) z).toArray:=by
 have hk:=h.lt
 have hs:=h.size
 apply Array.ext_getElem?
 intro j
 rw [lay_get? _ _ _ _ (by simp;omega),show (nF eq d d.size++List.replicate (d.size - k) z).toArray[j]? =(nF eq d d.size++List.replicate (d.size - k) z)[j]? from List.getElem?_toArray]
 simp only [List.length_replicate]
 by_cases c:j<k
 ·rw [if_neg (by omega),List.getElem?_append_left (by rw [h.len];exact c),h.low j c,getElem!_pos dk j (by omega),Array.getElem?_eq_getElem]
 ·rw [List.getElem?_append_right (by rw [h.len];omega),h.len]
  by_cases c2:j<d.size
  ·rw [if_pos (by omega)]
  ·rw [if_neg (by omega),Array.getElem?_eq_none (by omega),List.getElem?_eq_none (by simp;omega)]
end
set_option maxHeartbeats 4000000 in
set_option maxRecDepth 1000000 in
theorem aKr (enc:Nat→Value) (eq:Nat→Nat→Bool) (hO:OneCell enc) (zr:Nat) (hz:enc zr= .slice none 0 0) (blk off cap:Nat) (d:Array Nat) (w:World) (hH:Go.Sort.Holds enc w blk off d) (hsz:d.size≤9223372036854775807) (hcap:d.size≤cap)
 (hcmp: ∀(dk:Array Nat) (q:Nat) (x y:Nat),dk.size=d.size→ ∀n,Calls Tryz.prog 234 #[enc x,enc y] ((Go.Sort.putRow enc (Go.Sort.ahead w q) blk off dk).drewN n) fun e w' =>e= .returned (.bool (eq x y))∧ ∃qq,w' =((Go.Sort.putRow enc (Go.Sort.ahead w q) blk off dk).drewN n).drewN qq):
 Calls Tryz.prog 233 #[.slice (some ⟨blk,off,none⟩) d.size cap,.func (.func 234) #[] #[]] w fun e w' =>e= .returned (.slice (some ⟨blk,off,none⟩) (nF eq d d.size).length cap)∧ ∃q,w' =Go.Sort.putRow enc (Go.Sort.ahead w q) blk off (nF eq d d.size++List.replicate (d.size - (nF eq d d.size).length) zr).toArray:=by
 have mixed:=aL
 have hcl0:=hO.cells
 simp only [Value.cells] at hcl0
 have hst:=hO.store Tryz.prog
 have same: ∀q,(∀j,j<d.size→nE eq d j=true)→(nF eq d d.size).length=d.size∧w.drewN q=Go.Sort.putRow enc (Go.Sort.ahead w q) blk off (nF eq d d.size++List.replicate (d.size - (nF eq d d.size).length) zr).toArray:=by
  intro q hall
  have e:nF eq d d.size=d.toList:=aKq eq d hall
  rw [e]
  refine ⟨by simp,?_⟩
  simp only [Array.length_toList,Nat.sub_self,List.replicate_zero,List.append_nil,Array.toArray_toList]
  exact (Go.Sort.putRow_self enc (Go.Sort.ahead w q) blk off d (Go.Sort.holds_ahead enc w q blk off d hH)).symm
 have HS:Aside _:=same
 have HC:Aside _:=hcmp
 clear same hcmp
 by_cases h2:d.size<2
 ·have HH:Aside (Go.Sort.Holds enc w blk off d):=hH
  clear hH
  go_enter Tryz.func233,Tryz.ntmps233
  go_wp2
  go_ret
  obtain ⟨e1,e2⟩:=HS.out 0 (fun j hj=>aIe eq d j (by omega))
  exact ⟨by rw [e1];rfl,0,e2⟩
 ·go_enter Tryz.func233,Tryz.ntmps233
  go_wp2
  go_loopg [5] d.size (fun g s3 wr=> ∃k q:Nat,1≤k∧k≤d.size∧d.size - k≤g∧s3= .int .i64 k∧wr=w.drewN q∧ ∀j,j<k→nE eq d j=true)
  case atStart=>exact ⟨1,0,Nat.le_refl _,by omega,by omega,rfl,rfl,aIe eq d⟩
  case round=>
   obtain ⟨k,q,hk1,hk,hg,rfl,rfl,hall⟩:=hrel
   by_cases hlt:k<d.size
   ·obtain ⟨c1,f1⟩:=hH k hlt
    obtain ⟨c0,f0⟩:=hH (k - 1) (by omega)
    have A:Aside (∀j,j<k→nE eq d j=true):=hall
    have HH:Aside (Go.Sort.Holds enc w blk off d):=hH
    have hc0:=HC.out d q d[k]! d[k - 1]! rfl
    have hself:Go.Sort.putRow enc (Go.Sort.ahead w q) blk off d=w.drewN q:=Go.Sort.putRow_self enc (Go.Sort.ahead w q) blk off d (Go.Sort.holds_ahead enc w q blk off d hH)
    rw [hself] at hc0
    clear hall hH hself
    generalize hx:d[k]! =x at c1 hc0
    generalize hy:d[k - 1]! =y at c0 hc0
    have B:Aside (d[k]! =x∧d[k - 1]! =y):=⟨hx,hy⟩
    clear hx hy
    obtain ⟨kp,rfl⟩: ∃kp,k=kp+1:=⟨k - 1,by omega⟩
    simp only [Nat.add_sub_cancel] at c0
    have hwp:IntKind.i64.wrap (kp:Int)=(kp:Int):=by rw [IntKind.wrap_i64];omega
    have kz:(kp:Int)+1<(d.size:Int):=by omega
    have kz1:(kp:Int)<(d.size:Int):=by omega
    have p0:(0:Int)≤(kp:Int)+1:=by omega
    have e0:((kp:Int)+1).toNat=kp+1:=by omega
    have c1' :(w.drewN q).cell? ⟨blk,off+(kp+1),none⟩=some (enc x):=c1
    have c0' :(w.drewN q).cell? ⟨blk,off+kp,none⟩=some (enc y):=c0
    clear c1 c0
    generalize hwq:w.drewN q=wq at c1' c0' hc0 ⊢
    have WQ:Hid (w.drewN q=wq):=hwq
    clear hwq
    cases hdup:eq x y with
    | true=>
      rw [hdup] at hc0
      go_wp2_with fail
      go_quiet ((first | (go_at_call 234;exact Calls.quiet_of (hc0 _)) | (go_at_fn 234;exact Calls.quiet_of (hc0 _))))
      go_wp2
      have W1:Hid (wq.drewN nq=Go.Sort.putRow enc (Go.Sort.ahead w (q+nq)) blk off d):=by
       show _=_
       rw [←WQ.out,World.drewN_drewN]
       exact (Go.Sort.putRow_self enc (Go.Sort.ahead w (q+nq)) blk off d (Go.Sort.holds_ahead enc w (q+nq) blk off d HH.out)).symm
      clear c1' c0' f0 f1 hc0
      go_loopg [5,7] d.size (fun g s3 s5 wr=> ∃(kk k2 q2:Nat) (dk:Array Nat),s3= .int .i64 kk∧s5= .int .i64 ((k2:Int)+1)∧kp+1+(k2+1)≤d.size∧d.size - (kp+1+(k2+1))≤g∧wr=Go.Sort.putRow enc (Go.Sort.ahead w q2) blk off dk∧tU eq d (kp+1+(k2+1)) kk dk)
      case atStart=>exact ⟨kp+1,0,q+nq,d,by go_num,rfl,by omega,by omega,W1.out,tU.start A.out (aIg eq (by omega) (by rw [B.out.1,Nat.add_sub_cancel,show d[kp]! =y from B.out.2];exact hdup))⟩
      case round=>
       obtain ⟨kk,k2,q2,dk,rfl,rfl,hle,hg2,hwr,hI⟩:=hrel
       have hkk:=hI.lt
       have hds:=hI.size
       have hHk:Go.Sort.Holds enc wr blk off dk:=by rw [hwr];exact Go.Sort.holds_putRow enc _ blk off d dk (Go.Sort.holds_ahead enc w q2 blk off d HH.out) hds
       have W2:Aside (wr=Go.Sort.putRow enc (Go.Sort.ahead w q2) blk off dk):=hwr
       have I2:Aside (tU eq d (kp+1+(k2+1)) kk dk):=hI
       by_cases hlt2:kp+1+(k2+1)<d.size
       ·obtain ⟨cm,_⟩:=hHk (kp+1+(k2+1)) (by omega)
        obtain ⟨cp,_⟩:=hHk (kp+1+k2) (by omega)
        obtain ⟨ck,fk⟩:=hHk kk (by omega)
        rw [hI.high (kp+1+(k2+1)) (by omega),show off+(kp+1+(k2+1))=off+(kp+1)+(k2+1) by omega] at cm
        rw [hI.high (kp+1+k2) (by omega),show off+(kp+1+k2)=off+(kp+1)+k2 by omega] at cp
        have hc1:=HC.out dk q2 d[kp+1+(k2+1)]! d[kp+1+k2]! hds
        rw [←hwr] at hc1
        clear hHk hI hwr
        generalize hu:d[kp+1+(k2+1)]! =u at cm hc1
        generalize hv:d[kp+1+k2]! =v at cp hc1
        generalize dk[kk]! =old at ck
        have C:Aside (d[kp+1+(k2+1)]! =u∧d[kp+1+k2]! =v):=⟨hu,hv⟩
        clear hu hv
        have hwp2:IntKind.i64.wrap (k2:Int)=(k2:Int):=by rw [IntKind.wrap_i64];omega
        have jz:(k2:Int)+1<(d.size:Int) - ((kp:Int)+1):=by omega
        have jz1:(k2:Int)<(d.size:Int) - ((kp:Int)+1):=by omega
        have j0:(0:Int)≤(k2:Int)+1:=by omega
        have je:((k2:Int)+1).toNat=k2+1:=by omega
        cases huv:eq u v with
        | true=>
          rw [huv] at hc1
          go_wp2_with fail
          go_quiet ((first | (go_at_call 234;exact Calls.quiet_of (hc1 _)) | (go_at_fn 234;exact Calls.quiet_of (hc1 _))))
          go_wp2
          go_roundg (d.size - (kp+1+(k2+1+1)))
          case measure=>omega
          case rel=>exact ⟨kk,k2+1,q2+nq,dk,rfl,by go_num,by omega,by omega,by rw [W2.out];exact Go.Proofs.putRow_drewN _ _ _ _ _ _ _,I2.out.skip (aIg eq (by omega) (by rw [C.out.1,show kp+1+(k2+1) - 1=kp+1+k2 by omega,C.out.2];exact huv))⟩
        | false=>
          rw [huv] at hc1
          go_wp2_with fail
          go_quiet ((first | (go_at_call 234;exact Calls.quiet_of (hc1 _)) | (go_at_fn 234;exact Calls.quiet_of (hc1 _))))
          go_wp2
          go_roundg (d.size - (kp+1+(k2+1+1)))
          case measure=>omega
          case rel=>
           refine ⟨kk+1,k2+1,q2+nq,dk.setIfInBounds kk u,by go_num,by go_num,by omega,by omega,?_,?_⟩
           ·rw [W2.out,show (Go.Sort.putRow enc (Go.Sort.ahead w q2) blk off dk).drewN nq=Go.Sort.putRow enc (Go.Sort.ahead w (q2+nq)) blk off dk from Go.Proofs.putRow_drewN _ _ _ _ _ _ _,Go.Sort.putRow_set enc _ blk off dk kk u (by omega)]
           ·have:=I2.out.keep hlt2 (aIf eq (by rw [C.out.1,show kp+1+(k2+1) - 1=kp+1+k2 by omega,C.out.2];exact huv))
            rwa [C.out.1] at this
       ·have hend:kp+1+(k2+1)=d.size:=by omega
        have hcl: ∀ty,(Builtin.clear_ #[78] ty #[.slice (some ⟨blk,off+kk,none⟩) (d.size - kk) (cap - kk)]).run Tryz.prog wr= .ok (.tuple #[]) (wr.setCells blk (off+kk) (List.replicate (d.size - kk) (enc zr))):=
         fun ty=>Lib.run_clear_slice wr _ _ ty _ Tryz.underlying78 (fun w=>by rw [hz];rfl) (hO.cells zr) (hO zr) blk (off+kk) _ _ (by omega) (fun j hj=>by rw [show off+kk+j=off+(kk+j) by omega,(hHk (kk+j) (by omega)).1];rfl) (fun j hj=>by rw [show off+kk+j=off+(kk+j) by omega];exact (hHk (kk+j) (by omega)).2)
        clear hHk hI hwr
        go_wp2
        go_ret
        have hI:=I2.out
        rw [hend] at hI
        refine ⟨by rw [hI.len];rfl,q2,?_⟩
        rw [hI.len,←hI.done zr,←putRow_setCells enc _ blk off _ dk kk (by simp;omega),←W2.out,List.map_replicate,hz]
    | false=>
      rw [hdup] at hc0
      go_wp2_with fail
      go_quiet ((first | (go_at_call 234;exact Calls.quiet_of (hc0 _)) | (go_at_fn 234;exact Calls.quiet_of (hc0 _))))
      go_wp2
      go_roundg (d.size - (kp+1+1))
      case measure=>omega
      case rel=>
       refine ⟨kp+1+1,q+nq,by omega,by omega,Nat.le_refl _,by go_num,by rw [←WQ.out,World.drewN_drewN],fun j hj=>?_⟩
       by_cases e:j=kp+1
       ·subst e
        exact aIf eq (by rw [B.out.1,B.out.2];exact hdup)
       ·exact A.out j (by omega)
   ·obtain rfl:k=d.size:=by omega
    have HH:Aside (Go.Sort.Holds enc w blk off d):=hH
    clear hH
    go_wp2
    go_ret
    obtain ⟨e1,e2⟩:=HS.out q hall
    exact ⟨by rw [e1];rfl,q,e2⟩
end Go.Proofs.YtdfebigfnjfgpaaGreat
namespace Go.Proofs.YtdfebigfnjfgpaaGreat
open Go.ChangeShapes Go.WideShapes Go.ChangeAt Go.RowKit Go.Shelf Go.Lib
set_option linter.unusedVariables false
set_option linter.unusedSimpArgs false
def aJ9 (l:List (List Int)) (i j:Nat):Bool:=decide (l.getD i []=l.getD j [])
def nY (l:List (List Int)):List Nat:=(List.range l.length).filter fun j=>decide (j=0) || !aJ9 l j (j - 1)
def gK (l:List (List Int)):List (List Int):=(nY l).map fun i=>l.getD i []
theorem aOS (l:List (List Int)):nF (aJ9 l) (List.range l.length).toArray l.length=nY l:=by
 unfold nF nY
 have e: ∀j,j<l.length→(List.range l.length).toArray[j]! =j:=fun j hj=>by simp [hj]
 have e1:(List.range l.length).filter (nE (aJ9 l) (List.range l.length).toArray)=(List.range l.length).filter fun j=>decide (j=0) || !aJ9 l j (j - 1):=by
  apply List.filter_congr
  intro j hj
  have hj:=List.mem_range.1 hj
  unfold nE
  rw [e j hj,e (j - 1) (by omega)]
 rw [e1]
 conv=>rhs;rw [←List.map_id (List.filter _ _)]
 apply List.map_congr_left
 intro j hj
 exact e j (List.mem_range.1 (List.mem_filter.1 hj).1)
theorem aQb {α:Type} {l m:List (List α)} (h:List.Sublist l m):List.Sublist l.flatten m.flatten:=by
 induction h with
 | slnil=>exact List.Sublist.refl _
 | cons a _ ih=>rw [List.flatten_cons];exact ih.trans (List.sublist_append_right _ _)
 | cons_cons a _ ih=>rw [List.flatten_cons,List.flatten_cons];exact (List.Sublist.refl a).append ih
theorem aNR {l:List (List Int)} {i:Nat} (h:i∈nY l):i<l.length:=List.mem_range.1 (List.mem_filter.1 h).1
set_option maxHeartbeats 2000000 in
theorem aKs (l:List (List Int)) (hl:l.length<4611686018427387904):wQ Tryz.prog 233 [.own 0,.fn 234 []] [(0,.arr 39 1 true (l.map aA))] (.own 1) [(1,.arr 39 1 true ((gK l).map aA))]:=by
 refine ⟨by kernel_rfl,by simp,fun A φ w vs hI hm=>?_⟩
 obtain ⟨pl,hp,css,Fs,q1,q2,q3,q4⟩:=hI.dom 0 _ rfl
 unfold aN at hm
 obtain ⟨v,us,e1,m1,hm⟩:=hm
 unfold aN at hm
 obtain ⟨v2,us2,e2,m2,hm⟩:=hm
 unfold aN at hm
 unfold aF at m1 m2
 obtain ⟨vs2,ev2,m3⟩:=m2
 unfold aN at m3
 have hv:=m1 pl hp
 have e3:vs2= #[]:=by apply Array.ext';simpa using m3
 have ev:vs= #[pl.val,.func (.func 234) #[] #[]]:=by apply Array.ext';rw [e1,e2,hm,hv,ev2,e3]
 rw [ev]
 have hnd:=hI.nodup 0 pl hp
 have hge:=hI.ge 0 pl hp
 have hFe:pl.F=pl.val.ownBlock.toList++Fs.flatten:=by unfold Pl.F;rw [q2,q3]
 have hfoot: ∀b∈pl.F,aJU φ b:=fun b hb=>⟨0,pl,trivial,hp,hb⟩
 have h0: ∀h pl',φ h=some pl' →h=0:=fun h pl' e' =>by
  cases hr:aZ [(0,Rs.arr 39 1 true (l.map aA))] h with
  | none=>rw [hI.non h hr] at e';cases e'
  | some r=>
    simp only [aZ] at hr
    split at hr
    ·assumption
    ·cases hr
 obtain ⟨lc,lF⟩:=aAG q4
 rw [List.length_map] at lc lF
 have hrow: ∀i,i<l.length→ ∃a cap F,css[i]? =some [.slice a (l.getD i []).length cap]∧Fs[i]? =some F∧aAw w a (l.getD i [])∧(∀x∈a,x.block∈F)∧(l.getD i []).length≤9223372036854775807∧dU w (aA (l.getD i [])) [.slice a (l.getD i []).length cap] F:=fun i hi=>by
  obtain ⟨r,hr⟩:=dG hi
  have hg:l.getD i []=r:=by simp [List.getD_eq_getElem?_getD,hr]
  obtain ⟨c,F,g1,g2,_,g4⟩:=yC q4 (show (l.map aA)[i]? =some (aA r) by rw [List.getElem?_map,hr];rfl)
  obtain ⟨a,cap,rfl,k1,k2,k3⟩:=aTI g4
  rw [hg]
  exact ⟨a,cap,F,g1,g2,k1,k2,k3,g4⟩
 have hone: ∀d∈css,d.length=1:=fun d hd=>by
  obtain ⟨i,hi⟩:=List.getElem?_of_mem hd
  obtain ⟨a,cap,F,g1,_⟩:=hrow i (by have:=(List.getElem?_eq_some_iff.1 hi).1;omega)
  rw [hi] at g1
  injection g1 with g1
  rw [g1];rfl
 let enc:Nat→Value:=fun i=>css.flatten.getD i (.slice none 0 0)
 have henc: ∀i,∃a cap,enc i= .slice a (l.getD i []).length cap∧aAw w a (l.getD i [])∧(∀x∈a,x.block∈Fs.flatten)∧(l.getD i []).length≤9223372036854775807:=fun i=>by
  by_cases hi:i<l.length
  ·obtain ⟨a,cap,F,g1,g2,g3,g4,g5,_⟩:=hrow i hi
   refine ⟨a,cap,?_,g3,fun x hx=>List.mem_flatten.2 ⟨F,List.mem_of_getElem? g2,g4 x hx⟩,g5⟩
   show css.flatten.getD i _=_
   rw [List.getD_eq_getElem?_getD,pY css i _ hone g1];rfl
  ·have hg:l.getD i []= []:=by rw [List.getD_eq_getElem?_getD,List.getElem?_eq_none (by omega)];rfl
   rw [hg]
   refine ⟨none,0,?_,fun j x hx=>by simp at hx,by simp,by simp⟩
   show css.flatten.getD i _=_
   rw [List.getD_eq_getElem?_getD,List.getElem?_eq_none (by rw [aCJ css hone];omega)];rfl
 have h1:φ 1=none:=hI.non 1 rfl
 have hend: ∀(v' :Value) (w' :World),mH pl.F w w' →(∀F∈Fs,jU F w w')→(∀b∈v'.ownBlock,b∈pl.val.ownBlock)→w'.ownsRow 0 39 1 v' (nY l).length ((nY l).map enc)→
  ∃v K φ',Ending.returned v' = .returned v∧aOD A φ w [(1,.arr 39 1 true ((gK l).map aA))] K φ' w' ∧aF K φ' w' (.own 1) v:=by
  intro v' w' hon hkeep hvb howns
  have hFr:(List.range l.length).map (fun i=>Fs.getD i [])=Fs:=by
   apply List.ext_getElem?
   intro i
   by_cases hi:i<l.length
   ·simp [hi,show i<Fs.length by omega]
   ·simp [hi,show ¬i<Fs.length by omega]
  have hsub:List.Sublist ((nY l).map fun i=>Fs.getD i []).flatten Fs.flatten:=by
   have:List.Sublist ((nY l).map fun i=>Fs.getD i []) ((List.range l.length).map fun i=>Fs.getD i []):=List.filter_sublist.map _
   rw [hFr] at this
   exact aQb this
  let pl' :Pl:=⟨v',v'.ownBlock.toList,((nY l).map fun i=>Fs.getD i []).flatten⟩
  have hmem: ∀g,g∈pl'.F→g∈pl.F:=fun g hg=>by
   rw [hFe]
   simp only [pl',Pl.F,List.mem_append,Option.mem_toList] at hg ⊢
   rcases hg with h | h
   ·exact .inl (hvb g h)
   ·exact .inr (List.Sublist.mem h hsub)
  have hnd' :pl'.F.Nodup:=by
   rw [hFe] at hnd
   have hn:=List.nodup_append.1 hnd
   simp only [pl',Pl.F]
   refine List.nodup_append.2 ⟨by cases v'.ownBlock<;>simp,hsub.nodup hn.2.1,fun x hx y hy=>?_⟩
   exact hn.2.2 x (by rw [Option.mem_toList] at hx ⊢;exact hvb x hx) y (List.Sublist.mem hy hsub)
  refine ⟨_,A,fun h=>if h=1 then some pl' else none,rfl,⟨⟨hon.os,hon.tape,hon.output,hon.size,fun b hb hn=>hon.block b hb (fun hm=>hn (hfoot b hm))⟩,fun _ h=>h,fun b hb=>⟨Nat.lt_of_lt_of_le (hI.lt b hb) hon.size,.inl hb⟩,fun b hb h pl1 e' hm' =>?_,fun h r hr=>?_,fun h hr=>?_,fun h h' pl1 pl2 hne ea eb=>?_,fun h pl1 e' =>?_,fun h pl1 e' g hg=>?_,fun h pl1 pl0 e' e0=>?_⟩,?_⟩
  ·split at e'
   ·injection e' with e';subst e'
    exact hI.out b hb 0 pl hp (hmem b hm')
   ·cases e'
  ·simp only [aZ] at hr
   split at hr
   ·rename_i eh
    subst eh
    injection hr with hr
    subst hr
    refine ⟨pl',by simp,(nY l).map (fun i=>[enc i]),(nY l).map (fun i=>Fs.getD i []),?_,rfl,rfl,?_⟩
    ·rw [aFv enc (nY l),List.length_map,gK,List.length_map];exact howns
    ·rw [gK,List.map_map]
     refine aFu (fun i=>aA (l.getD i [])) (fun i=>[enc i]) (fun i=>Fs.getD i []) fun i hi=>⟨rfl,?_⟩
     obtain ⟨a,cap,F,g1,g2,g3,g4,g5,g6⟩:=hrow i (aNR hi)
     have ee:enc i= .slice a (l.getD i []).length cap:=by
      show css.flatten.getD i _=_
      rw [List.getD_eq_getElem?_getD,pY css i _ hone g1];rfl
     have eF:Fs.getD i []=F:=by simp [List.getD_eq_getElem?_getD,g2]
     rw [ee,eF]
     exact dU.kept _ _ _ (hkeep F (List.mem_of_getElem? g2)) g6
   ·cases hr
  ·simp only [aZ] at hr
   split at hr
   ·cases hr
   ·rename_i eh;exact if_neg eh
  ·split at ea
   ·split at eb
    ·rename_i x y;exact absurd (x.trans y.symm) hne
    ·cases eb
   ·cases ea
  ·split at e'
   ·injection e' with e';subst e';exact hnd'
   ·cases e'
  ·split at e'
   ·injection e' with e';subst e'
    have:=hmem g hg
    exact ⟨.inr (hfoot g this),Nat.lt_of_lt_of_le (hge g this) hon.size⟩
   ·cases e'
  ·split at e'
   ·rename_i eh
    subst eh
    rw [h1] at e0;cases e0
   ·cases e'
  ·unfold aF
   intro pl1 e'
   simp at e'
   subst e'
   rfl
 rw [List.length_map] at q1
 rcases q1.2 with ⟨hvn,hz⟩ | ⟨g,cap,cur,hvv,hg0,hb,hn,hcap,hsz,htk⟩
 ·have hz' :l= []:=List.eq_nil_of_length_eq_zero hz
  subst hz'
  rw [hvn]
  have hcon:Calls Tryz.prog 233 #[.slice none 0 0,.func (.func 234) #[] #[]] w fun e w' =>e= .returned (.slice none 0 0)∧w' =w:=by
   clear hend
   go_enter Tryz.func233,Tryz.ntmps233
   go_wp2
   go_ret
   exact ⟨rfl,rfl⟩
  refine hcon.mono ?_
  rintro en w' ⟨rfl,rfl⟩
  exact hend (.slice none 0 0) w' (mH.refl _ _) (fun F hF g hg=>rfl) (fun b hb=>by cases hb) ⟨by simp [nY],.inl ⟨rfl,by simp [nY]⟩⟩
 ·have hgF:g ∉ Fs.flatten:=fun hm=>by
   rw [hFe,hvv] at hnd
   simp only [Value.ownBlock,Option.toList_some,List.cons_append,List.nil_append,List.nodup_cons] at hnd
   exact hnd.1 hm
  have hgs:g<w.heap.size:=(Array.getElem?_eq_some_iff.1 hb).1
  have hin: ∀b∈Fs.flatten,b<w.heap.size∧b≠g:=fun b hb' =>⟨hge b (by rw [hFe];exact List.mem_append_right _ hb'),fun e=>hgF (e▸hb')⟩
  have hw0: ∀(dk:Array Nat) (q:Nat),Go.Sort.putRow enc (Go.Sort.ahead w q) g 0 dk=sortWorld enc w g 0 q dk #[]:=fun dk q=>by unfold sortWorld;rw [Go.Sort.grow_empty]
  have hcmp: ∀(dk:Array Nat) (q:Nat) (x y:Nat),dk.size=(List.range l.length).toArray.size→ ∀n,Calls Tryz.prog 234 #[enc x,enc y] ((Go.Sort.putRow enc (Go.Sort.ahead w q) g 0 dk).drewN n) fun e w' =>e= .returned (.bool (aJ9 l x y))∧ ∃qq,w' =((Go.Sort.putRow enc (Go.Sort.ahead w q) g 0 dk).drewN n).drewN qq:=fun dk q x y _ n=>by
   obtain ⟨a1,c1,ex,r1,k1,b1⟩:=henc x
   obtain ⟨a2,c2,ey,r2,k2,b2⟩:=henc y
   rw [ex,ey]
   have hk: ∀b,b∈Fs.flatten→((Go.Sort.putRow enc (Go.Sort.ahead w q) g 0 dk).drewN n).heap[b]? =w.heap[b]? :=fun b hb' =>by
    show (Go.Sort.putRow enc (Go.Sort.ahead w q) g 0 dk).heap[b]? =_
    rw [hw0]
    exact rS dk (hin b hb').1 (hin b hb').2
   exact aSl a1 a2 c1 c2 _ _ _ b1 b2 (aAH r1 fun q hq=>hk _ (k1 q hq)) (aAH r2 fun q hq=>hk _ (k2 q hq))
  have htk' :cur.toList.take l.length=css.flatten:=by rw [Nat.mul_one] at htk;exact htk
  have hH:Go.Sort.Holds enc w g 0 (List.range l.length).toArray:=fun j hj=>by
   have hj' :j<l.length:=by simpa using hj
   refine ⟨?_,by simp [World.frozen?,hb]⟩
   have h1:(cur.toList.take l.length)[j]? =css.flatten[j]? :=by rw [htk']
   rw [List.getElem?_take_of_lt hj'] at h1
   simp only [World.cell?,hb,Nat.zero_add,Option.isSome_none,Bool.false_eq_true,if_false]
   rw [←Array.getElem?_toList,h1]
   obtain ⟨a,cap',F,g1,_⟩:=hrow j hj'
   have h2:=pY css j _ hone g1
   have ee:enc j= .slice a (l.getD j []).length cap' :=by
    show css.flatten.getD j _=_
    rw [List.getD_eq_getElem?_getD,h2];rfl
   have ej:(List.range l.length).toArray[j]! =j:=by simp [hj']
   rw [h2,ej,ee]
  have hone1:OneCell enc:=fun x=>by
   obtain ⟨a,c,ex,_⟩:=henc x
   rw [ex];rfl
  have hzr:enc l.length= .slice none 0 0:=by
   show css.flatten.getD l.length _=_
   rw [List.getD_eq_getElem?_getD,List.getElem?_eq_none (by rw [aCJ css hone];omega)];rfl
  have hszd:(List.range l.length).toArray.size=l.length:=by simp
  have hcon:=aKr enc (aJ9 l) hone1 l.length hzr g 0 cap (List.range l.length).toArray w hH (by rw [hszd];omega) (by rw [hszd];exact hn) hcmp
  rw [hszd,aOS] at hcon
  rw [hvv]
  refine hcon.mono ?_
  rintro en w' ⟨rfl,q,rfl⟩
  have hle:(nY l).length≤l.length:=by
   have:=(List.filter_sublist (l:=List.range l.length) (p:=fun j=>decide (j=0) || !aJ9 l j (j - 1))).length_le
   simpa [nY] using this
  have hkb: ∀k,k<w.heap.size→k≠g→(Go.Sort.putRow enc (Go.Sort.ahead w q) g 0 (nY l++List.replicate (l.length - (nY l).length) l.length).toArray).heap[k]? =w.heap[k]? :=fun k hk hne=>by rw [hw0];exact rS _ hk hne
  refine hend _ _ ⟨rfl,rfl,rfl,by simp,fun k hk hne=>hkb k hk (fun e=>hne (by rw [hFe,hvv,e];simp [Value.ownBlock]))⟩
   (fun F hF b hb' =>hkb b (hin b (List.mem_flatten.2 ⟨F,hF,hb'⟩)).1 (hin b (List.mem_flatten.2 ⟨F,hF,hb'⟩)).2)
   (fun b hb' =>by rw [hvv];exact hb') ?_
  rw [hw0]
  refine ⟨by simp,.inr ⟨g,cap,_,rfl,hg0,aId _ hb,by omega,hcap,by simp [Go.Sort.putCells,hsz],?_⟩⟩
  rw [Nat.mul_one]
  have:=aKp enc cur (nY l++List.replicate (l.length - (nY l).length) l.length) (by simp;omega)
  have h3:=congrArg (List.take (nY l).length) this
  rw [List.take_take,List.map_append,List.take_append_of_le_length (by simp)] at h3
  rw [show min (nY l).length (nY l++List.replicate (l.length - (nY l).length) l.length).length=(nY l).length by simp] at h3
  rw [h3,List.take_of_length_le (by simp)]
end Go.Proofs.YtdfebigfnjfgpaaGreat
namespace Go.Proofs.YtdfebigfnjfgpaaGreat
open Go.ChangeShapes Go.WideShapes Go.ChangeAt Go.RowKit
set_option linter.unusedVariables false
set_option linter.unusedSimpArgs false
set_option maxRecDepth 100000
set_option maxHeartbeats 4000000
abbrev tF (l:List (List Int)):AV × List (Nat × Rs):=(.own 0,[(0,.arr 39 1 true ((gK (dT l)).map aA))])
abbrev aA7 (l:List (List Int)):Prop:=cT Tryz.prog 225 [.one (.sl 39 1 (l.map aA))] (tF l).1 (tF l).2
theorem aKt (l:List (List Int)) (hc:cX l≤1048576):aA7 l:=by
 refine aT bE aL Tryz.func225 (by kernel_rfl) (bV (aIc l)<| .callx [.own 0,.fn 231 []] [(0,.arr 39 1 true (l.map aA))] [(0,500)] (.tup []) [(0,.arr 39 1 true ((dT l).map aA))]<| .callx [.own 0,.fn 234 []] [(0,.arr 39 1 true ((dT l).map aA))] [(0,500)] (.own 1) [(1,.arr 39 1 true ((gK (dT l)).map aA))]<| .fin [(0,901)]) (p:=(l.map aA).length≤9223372036854775807→aKl l∧wQ Tryz.prog 232 [.own 0,.fn 231 []] [(0,.arr 39 1 true (l.map aA))] (.tup []) [(0,.arr 39 1 true ((dT l).map aA))]∧l.map aA=l.map aA∧wQ Tryz.prog 233 [.own 0,.fn 234 []] [(0,.arr 39 1 true ((dT l).map aA))] (.own 1) [(1,.arr 39 1 true ((gK (dT l)).map aA))]∧(dT l).map aA=(dT l).map aA∧(gK (dT l)).map aA=(gK (dT l)).map aA∧True) (by kernel_rfl) ?_
 intro n0
 simp only [List.length_map] at n0
 have hlen:=gG l
 refine ⟨cpR _ (by omega),aQa l (by omega),rfl,aKs (dT l) (by first | omega | (rw [aDF];omega)),rfl,?_⟩
 exact ⟨rfl,trivial⟩
def lG (t:aV) (cols:List Int):List (List Int):=t.rows.map fun r=>(fK r cols).1
def jL (all:List (List Int)) (g:List Int):Int:=(((all.filter fun x=>decide (g=x)).length:Nat):Int)
def aMR (t:aV) (cols:List Int):List (List Int):=gK (dT (lG t cols))
def aKu (t:aV) (cols:List Int):List Int:=(aMR t cols).map (jL (lG t cols))
def eR (t:aV) (cols:List Int):List (List Int) × List Int:=if (aO t&&dP (t.arity - 1) cols)=true then (aMR t cols,aKu t cols) else ([],[])
theorem fL {t:aV} {cols:List Int} (h:(aO t&&dP (t.arity - 1) cols)=true):eR t cols=(aMR t cols,aKu t cols):=by rw [eR,if_pos h]
theorem mS {t:aV} {cols:List Int} (h:(aO t&&dP (t.arity - 1) cols)=false):eR t cols=([],[]):=by rw [eR,if_neg (by rw [h];decide)]
theorem aNS {all:List (List Int)} {g x:List Int} {j:Nat} (hx:all[j]? =some x) (h:g=x):jL (all.take (j+1)) g=jL (all.take j) g+1:=by
 subst h
 rw [jL,jL,bO hx,List.filter_append]
 simp
theorem aQc {all:List (List Int)} {g x:List Int} {j:Nat} (hx:all[j]? =some x) (h: ¬g=x):jL (all.take (j+1)) g=jL (all.take j) g:=by
 rw [jL,jL,bO hx,List.filter_append]
 simp [h]
theorem aQd (all:List (List Int)) (g:List Int):0≤jL all g∧jL all g≤all.length:=by
 have:=List.length_filter_le (fun x=>decide (g=x)) all
 unfold jL
 omega
theorem aFw {b:Int} {cols:List Int} (h:dP b cols=true): ∀i,i<cols.length→(i:Int)≤cols.getD i 0∧cols.getD i 0≤b
 | 0,hi=>by
   have:=List.all_eq_true.1 h 0 (List.mem_range.2 hi)
   simp only [jK,Bool.and_eq_true] at this
   have:=eU this.1
   exact ⟨by simpa using this.1,this.2⟩
 | i+1,hi=>by
   have ih:=aFw h i (by omega)
   have:=List.all_eq_true.1 h (i+1) (List.mem_range.2 hi)
   simp only [jK,Bool.and_eq_true,Bool.or_eq_true,decide_eq_true_eq,Nat.add_sub_cancel] at this
   have h2:=eU this.1
   rcases this.2 with q | q
   ·omega
   ·exact ⟨by omega,h2.2⟩
theorem aCK {b:Int} {cols:List Int} (h:dP b cols=true) (hb:b≤2):cols.length≤3:=by
 by_cases h3:3<cols.length
 ·have:=aFw h 3 h3
  omega
 ·omega
theorem aAy {α:Type} {ct:α→Nat} {m:Nat}: ∀{l:List α},(∀x∈l,ct x≤m)→fZ ct l≤l.length*m
 | [],_=>by simp [fZ]
 | a::l,h=>by
   have h1:=h a (by simp)
   have h2:=aAy (l:=l) fun x hx=>h x (by simp [hx])
   simp only [fZ,List.map_cons,List.sum_cons,List.length_cons,Nat.add_mul,Nat.one_mul] at*
   omega
theorem aCL {l:List (List Int)} {m:Nat} (h: ∀r∈l,r.length≤m):cX l≤l.length+l.length*m:=by
 have h1:=aAy (ct:=cG) (m:=m) (l:=l) fun r hr=>h r hr
 have h2:cX l=l.length+fZ cG l:=rfl
 omega
theorem aFx {t:aV} {cols:List Int} (h:(aO t&&dP (t.arity - 1) cols)=true):(lG t cols).length≤8∧cX (lG t cols)≤32:=by
 rw [Bool.and_eq_true] at h
 have ha:=cN h.1
 have hc:=aCK h.2 (by omega)
 have hl:(lG t cols).length=t.rows.length:=List.length_map _
 have:=aCL (l:=lG t cols) (m:=3) fun r hr=>by
  obtain ⟨q,_,rfl⟩:=List.mem_map.1 hr
  have:=aFr q cols
  omega
 omega
theorem aQe (l:List (List Int)):(gK (dT l)).length≤l.length:=by
 rw [gK,List.length_map,←aDF l]
 have:=(List.filter_sublist (l:=List.range (dT l).length) (p:=fun j=>decide (j=0) || !aJ9 (dT l) j (j - 1))).length_le
 rw [List.length_range] at this
 exact this
theorem aUM {α:Type} {l:List α} {i:Nat} {x y:α} (h:(l.set i x)[i]? =some y):y=x:=aUG h
theorem aOT {f:List Int→Int} {l:List (List Int)} {i:Nat} (h:i<l.length):((l.take i).map f++List.replicate (l.length - i) (0:Int)).set i 0=(l.take i).map f++List.replicate (l.length - i) 0:=by
 rw [show l.length - i=(l.length - (i+1))+1 by omega,List.replicate_succ,List.set_append_right _ _ (by simp;omega)]
 simp [show i - min i l.length=0 by omega]
theorem aQf {f:List Int→Int} {l:List (List Int)} {i:Nat} {x:List Int} (h:l[i]? =some x):((l.take i).map f++List.replicate (l.length - i) (0:Int)).set i (f x)=(l.take (i+1)).map f++List.replicate (l.length - (i+1)) 0:=by
 have hi:i<l.length:=(List.getElem?_eq_some_iff.1 h).1
 rw [show l.length - i=(l.length - (i+1))+1 by omega,List.replicate_succ,List.set_append_right _ _ (by simp;omega),bO h]
 simp [show i - min i l.length=0 by omega]
theorem aMS {f:List Int→Int} {l:List (List Int)} {i:Nat} (h:i≤l.length) (h' : ¬i<l.length):(l.take i).map f++List.replicate (l.length - i) (0:Int)=l.map f:=by
 rw [show i=l.length by omega];simp
abbrev uW (t:aV) (cols:List Int):AV × List (Nat × Rs):=(.tup [.own 0,.own 1],[(0,.arr 39 1 true (((eR t cols).1).map aA)),(1,.arr 3 1 true (((eR t cols).2).map intD))])
abbrev aAz (t:aV) (cols:List Int):Prop:=cT Tryz.prog 204 [.agg [.str t.name,.int .i64 t.arity,.sl 39 1 (t.rows.map aA)],.one (.sl 3 1 (cols.map intD))] (uW t cols).1 (uW t cols).2
theorem aKv (t:aV) (cols:List Int) (hl:cols.length≤1048576):aAz t cols:=by
 refine aT bE aL Tryz.func204 (by kernel_rfl) (.call (vB (aO t)) []<| .br (.fin []) (.call (vB (dP (t.arity - 1) cols)) []<| .lit<| .lit<| .br (.fin []) (.len t.rows.length<| .loop (Nat × (List (List Int))) (Q2 Nat (List (List Int))) [6,8,9,10,27,31,32,33,34,35,36,37,38,39,40,41,42,43,44,45] [2700,3800,4300,4400] (fun yy0=>[(31,vI (yy0.1:Int)),(6,.own 2700)]) (fun yy0=>[(2700,some (.arr 39 1 true (yy0.2.map aA)))]) (fun yy0=>yy0.1≤t.rows.length∧yy0.2=(t.rows.take yy0.1).map fun r=>(fK r cols).1) (fun yy0=>t.rows.length - yy0.1) (fun yy0=> .br (.elem _ aA t.rows (fun e33=>bV (oU e33 cols)<| .appx (List Int) aA yy0.2 ((fK e33 cols).1)<| .back [(2700,4400)])) (bV (tF yy0.2)<| .len ((gK (dT yy0.2)).length)<| .mk ((gK (dT yy0.2)).length) [.int .i64 (0:Int)] ((List.replicate ((gK (dT yy0.2)).length) (0:Int)).map intD)<| .len ((gK (dT yy0.2)).length)<| .loop (Nat × (List Int)) (Q2 Nat (List Int)) [13,14,16,53,54,55,56,57,58,59,60,61,62,63,64,65,66,67,68,69,70,71,72,73,74] [5000] (fun yy1=>[(53,vI (yy1.1:Int))]) (fun yy1=>[(5000,some (.arr 3 1 true (yy1.2.map intD)))]) (fun yy1=>yy1.1≤(gK (dT yy0.2)).length∧yy1.2=((gK (dT yy0.2)).take yy1.1).map (jL yy0.2)++List.replicate ((gK (dT yy0.2)).length - yy1.1) 0∧yy1.2.length=(gK (dT yy0.2)).length) (fun yy1=>(gK (dT yy0.2)).length - yy1.1) (fun yy1=> .br (.len ((gK (dT yy0.2)).length)<| .elem _ aA (gK (dT yy0.2)) (fun e57=> .len yy0.2.length<| .loop (Nat × (List Int) × Int) (Q3 Nat (List Int) Int) [16,60,61,62,63,64,65,66,67,68,69,70,71,72,73] [5000] (fun yy2=>[(60,vI (yy2.1:Int))]) (fun yy2=>[(5000,some (.arr 3 1 true (yy2.2.1.map intD)))]) (fun yy2=>yy2.1≤yy0.2.length∧yy2.2.1=yy1.2.set yy1.1 yy2.2.2∧yy2.2.2=jL (yy0.2.take yy2.1) e57) (fun yy2=>yy0.2.length - yy2.1) (fun yy2=> .br (.len yy0.2.length<| .elem _ aA yy0.2 (fun e63=> .call (vB (decide (e57=e63))) []<| .br (.len yy2.2.1.length<| .elem _ intD yy2.2.1 (fun e70=> .len yy2.2.1.length<| .set Int intD yy2.2.1 (fun s19_6=>e70+(1:Int)) (fun s19_6=> .back [(5000,5000)]))) (.back [(5000,5000)]))) (.back [(5000,5000)])))) (.fin [(0,4700),(1,5000)]))))))) (p:=(t.rows.map aA).length≤9223372036854775807→(cols.map intD).length≤9223372036854775807→rP t∧(((!(aO t))=true→[]=((eR t cols).1).map aA∧[]=((eR t cols).2).map intD∧True)∧((!(aO t))=false→yA cols t.arity∧(((!(dP (t.arity - 1) cols))=true→[]=((eR t cols).1).map aA∧[]=((eR t cols).2).map intD∧True)∧((!(dP (t.arity - 1) cols))=false→Lm aA t.rows∧((∃(k:Nat) (out:List (List Int)),(0:Int)=(k:Int)∧[]=out.map aA∧k≤t.rows.length∧out=(t.rows.take k).map fun r=>(fK r cols).1)∧ ∀(k:Nat) (out:List (List Int)),(k≤t.rows.length∧out=(t.rows.take k).map fun r=>(fK r cols).1)→((decide ((k:Int)<((t.rows.length:Nat):Int)))=true→0≤(k:Int)∧Em aA t.rows k fun e33=>rQ e33 cols∧out.map aA=out.map aA∧((fK e33 cols).1).map intD=((fK e33 cols).1).map intD∧(out.length+1)*24≤140737488355328∧cC ((k:Int)+(1:Int))∧ ∃(k' :Nat) (out' :List (List Int)),((k:Int)+(1:Int))=(k' :Int)∧(out++[(fK e33 cols).1]).map aA=out'.map aA∧(k' ≤t.rows.length∧out' =(t.rows.take k').map fun r=>(fK r cols).1)∧t.rows.length - k' <t.rows.length - k)∧((decide ((k:Int)<((t.rows.length:Nat):Int)))=false→aA7 out∧(Lm aA (gK (dT out))∧((((gK (dT out)).length:Nat):Int)=(((gK (dT out)).length:Nat):Int)∧(((gK (dT out)).length:Nat):Int)=(((gK (dT out)).length:Nat):Int)∧8*((gK (dT out)).length)≤281474976710656∧((gK (dT out)).length)≤9223372036854775807∧List.replicate ((gK (dT out)).length) [.int .i64 (0:Int)]=(List.replicate ((gK (dT out)).length) (0:Int)).map intD∧(Lm aA (gK (dT out))∧((∃(i:Nat) (c:List Int),(0:Int)=(i:Int)∧(List.replicate ((gK (dT out)).length) (0:Int)).map intD=c.map intD∧i≤(gK (dT out)).length∧c=((gK (dT out)).take i).map (jL out)++List.replicate ((gK (dT out)).length - i) 0∧c.length=(gK (dT out)).length)∧ ∀(i:Nat) (c:List Int),(i≤(gK (dT out)).length∧c=((gK (dT out)).take i).map (jL out)++List.replicate ((gK (dT out)).length - i) 0∧c.length=(gK (dT out)).length)→((decide ((i:Int)<(((gK (dT out)).length:Nat):Int)))=true→0≤(i:Int)∧Lm aA (gK (dT out))∧(i:Int)<(((gK (dT out)).length:Nat):Int)∧Em aA (gK (dT out)) i fun e57=>Lm aA out∧((∃(j:Nat) (c2:List Int) (z:Int),(0:Int)=(j:Int)∧c.map intD=c2.map intD∧j≤out.length∧c2=c.set i z∧z=jL (out.take j) e57)∧ ∀(j:Nat) (c2:List Int) (z:Int),(j≤out.length∧c2=c.set i z∧z=jL (out.take j) e57)→((decide ((j:Int)<((out.length:Nat):Int)))=true→0≤(j:Int)∧Lm aA out∧(j:Int)<((out.length:Nat):Int)∧Em aA out j fun e63=>qW e57 e63∧(((decide (e57=e63))=true→0≤(i:Int)∧Lm intD c2∧(i:Int)<((c2.length:Nat):Int)∧Em intD c2 i fun e70=>cC (e70+(1:Int))∧(0≤(i:Int)∧Lm intD c2∧(i:Int)<((c2.length:Nat):Int)∧(c2.map intD=c2.map intD∧i<c2.length∧ ∀s19_6,c2[i]? =some s19_6→eL (intD s19_6)=true∧0+1≤(intD s19_6).length∧(intD s19_6).take 0++[.int .i64 (e70+(1:Int))]++(intD s19_6).drop (0+1)=intD (e70+(1:Int))∧cC ((j:Int)+(1:Int))∧ ∃(j' :Nat) (c2' :List Int) (z' :Int),((j:Int)+(1:Int))=(j' :Int)∧(c2.set i (e70+(1:Int))).map intD=c2'.map intD∧(j' ≤out.length∧c2' =c.set i z' ∧z' =jL (out.take j') e57)∧out.length - j' <out.length - j)))∧((decide (e57=e63))=false→cC ((j:Int)+(1:Int))∧ ∃(j' :Nat) (c2' :List Int) (z' :Int),((j:Int)+(1:Int))=(j' :Int)∧c2.map intD=c2'.map intD∧(j' ≤out.length∧c2' =c.set i z' ∧z' =jL (out.take j') e57)∧out.length - j' <out.length - j)))∧((decide ((j:Int)<((out.length:Nat):Int)))=false→cC ((i:Int)+(1:Int))∧ ∃(i' :Nat) (c' :List Int),((i:Int)+(1:Int))=(i' :Int)∧c2.map intD=c'.map intD∧(i' ≤(gK (dT out)).length∧c' =((gK (dT out)).take i').map (jL out)++List.replicate ((gK (dT out)).length - i') 0∧c'.length=(gK (dT out)).length)∧(gK (dT out)).length - i' <(gK (dT out)).length - i)))∧((decide ((i:Int)<(((gK (dT out)).length:Nat):Int)))=false→(gK (dT out)).map aA=((eR t cols).1).map aA∧c.map intD=((eR t cols).2).map intD∧True)))))))))))) (by kernel_rfl) ?_
 intro n0 n1
 simp only [List.length_map] at n0 n1
 refine ⟨xY t,fun g20=>?_,fun g20=>?_⟩
 ·replace g20:=nt g20
  have hbad:(aO t&&dP (t.arity - 1) cols)=false:=by rw [g20];rfl
  refine ⟨?_,?_,trivial⟩
  ·first | (rw [mS hbad]<;>rfl) | (rw [fL hok,hA]<;>rfl) | (rw [fL hok,hC]<;>rfl)
  ·first | (rw [mS hbad]<;>rfl) | (rw [fL hok,hA]<;>rfl) | (rw [fL hok,hC]<;>rfl)
 ·replace g20:=nf g20
  have hT:=cN g20
  refine ⟨aI9 _ _ (by omega),fun c0=>?_,fun c0=>?_⟩
  ·replace c0:=nt c0
   have hbad:(aO t&&dP (t.arity - 1) cols)=false:=by rw [g20,c0];rfl
   refine ⟨?_,?_,trivial⟩
   ·first | (rw [mS hbad]<;>rfl) | (rw [fL hok,hA]<;>rfl) | (rw [fL hok,hC]<;>rfl)
   ·first | (rw [mS hbad]<;>rfl) | (rw [fL hok,hA]<;>rfl) | (rw [fL hok,hC]<;>rfl)
  ·replace c0:=nf c0
   have hok:(aO t&&dP (t.arity - 1) cols)=true:=by rw [g20,c0];rfl
   obtain ⟨hs1,hs2⟩:=aFx hok
   refine ⟨List.length_map _,⟨0,([]:List (List Int)),rfl,rfl,Nat.zero_le _,rfl⟩,fun k out ⟨hk,ho⟩=>?_⟩
   refine ⟨fun c1=>?_,fun c1=>?_⟩
   ·replace c1:=yq c1
    refine ⟨by omega,rfl,by first | omega | (rw [hc2,List.length_set,hcn];omega) | (simp;omega),fun e33 h33=>?_⟩
    refine ⟨aCH _ _ (by omega),rfl,rfl,by first | omega | (simp [ho];omega) | (simp;omega),⟨by omega,by omega⟩,?_⟩
    exact ⟨k+1,_,rfl,rfl,⟨by omega,by rw [ho,bO h33,List.map_append];rfl⟩,by omega⟩
   ·replace c1:=nq c1
    have hA:out=lG t cols:=by rw [ho,List.take_of_length_le (by omega)];rfl
    rw [←hA] at hs1 hs2
    have hd:=aQe out
    refine ⟨aKt out (by omega),List.length_map _,rfl,rfl,by first | omega | (simp [ho];omega) | (simp;omega),by first | omega | (simp [ho];omega) | (simp;omega),by first | (rw [List.map_replicate];done) | (rw [List.map_replicate];rfl),List.length_map _,⟨0,List.replicate ((gK (dT out)).length) (0:Int),rfl,rfl,Nat.zero_le _,by simp,List.length_replicate⟩,fun i c ⟨hi,hc,hcn⟩=>?_⟩
    refine ⟨fun c2=>?_,fun c2=>?_⟩
    ·replace c2:=yq c2
     refine ⟨by omega,List.length_map _,by first | omega | (rw [hc2,List.length_set,hcn];omega) | (simp;omega),rfl,by first | omega | (rw [hc2,List.length_set,hcn];omega) | (simp;omega),fun e57 h57=>?_⟩
     refine ⟨List.length_map _,⟨0,c,0,rfl,rfl,Nat.zero_le _,by rw [hc];exact (aOT (by omega)).symm,rfl⟩,fun j c2 z ⟨hj,hc2,hz⟩=>?_⟩
     refine ⟨fun c3=>?_,fun c3=>?_⟩
     ·replace c3:=yq c3
      refine ⟨by omega,List.length_map _,by first | omega | (rw [hc2,List.length_set,hcn];omega) | (simp;omega),rfl,by first | omega | (rw [hc2,List.length_set,hcn];omega) | (simp;omega),fun e63 h63=>?_⟩
      refine ⟨aCC _ _,fun c4=>?_,fun c4=>?_⟩
      ·replace c4:=yq c4
       refine ⟨by omega,List.length_map _,by first | omega | (rw [hc2,List.length_set,hcn];omega) | (simp;omega),rfl,by first | omega | (rw [hc2,List.length_set,hcn];omega) | (simp;omega),fun e70 h70=>?_⟩
       have hz70:e70=z:=by rw [hc2] at h70;exact (aUM h70)
       have hcl:=aQd (out.take j) e57
       have hjl:(out.take j).length≤out.length:=by simp;omega
       refine ⟨⟨by omega,by omega⟩,by omega,List.length_map _,by first | omega | (rw [hc2,List.length_set,hcn];omega) | (simp;omega),rfl,by first | omega | (rw [hc2,List.length_set,hcn];omega) | (simp;omega),fun s19_6 hs19_6=>⟨rfl,Nat.le_of_ble_eq_true rfl,rfl,?_⟩⟩
       refine ⟨⟨by omega,by omega⟩,?_⟩
       exact ⟨j+1,_,_,rfl,rfl,⟨by omega,by rw [hc2,List.set_set,hz70],by rw [hz,aNS h63 c4]⟩,by omega⟩
      ·replace c4:=nq c4
       refine ⟨⟨by omega,by omega⟩,?_⟩
       exact ⟨j+1,_,_,rfl,rfl,⟨by omega,hc2,by rw [hz,aQc h63 c4]⟩,by omega⟩
     ·replace c3:=nq c3
      have hj9:j=out.length:=by omega
      rw [hj9,List.take_length] at hz
      refine ⟨⟨by omega,by omega⟩,?_⟩
      exact ⟨i+1,_,rfl,rfl,⟨by omega,by rw [hc2,hz,hc];exact aQf h57,by rw [hc2,List.length_set];exact hcn⟩,by omega⟩
    ·replace c2:=nq c2
     have hC:c=aKu t cols:=by rw [hc,aMS hi (by omega),hA];rfl
     refine ⟨?_,?_,trivial⟩
     ·first | (rw [mS hbad]<;>rfl) | (rw [fL hok,hA]<;>rfl) | (rw [fL hok,hC]<;>rfl)
     ·first | (rw [mS hbad]<;>rfl) | (rw [fL hok,hA]<;>rfl) | (rw [fL hok,hC]<;>rfl)
end Go.Proofs.YtdfebigfnjfgpaaGreat
