/-
  Contracts and plain laws, joined: part 6.
-/
import Derived.Test.YtdfebigfnjfgpaaGreatQP4
import Derived.IntWalk
import Derived.Test.YtdfebigfnjfgpaaGreatQP3
import Derived.Deep.RegionHeld3
import Derived.BigRegion
import Derived.Deep.LoopGhost
import Derived.Shelf.SlSortCmp.Insertion
import Derived.Shelf.SlSortCmp.Whole1
import Derived.Shelf.SlSortCmp.NoneTotal
import Derived.Ground.SlsfProg
import Derived.Shelf.RegionOpenPlain
import Derived.Deep.Draws
namespace Go.Proofs.YtdfebigfnjfgpaaGreat
open Go.ChangeShapes Go.WideShapes Go.ChangeAt Go.RowKit
set_option linter.unusedVariables false
set_option linter.unusedSimpArgs false
set_option maxRecDepth 100000
set_option maxHeartbeats 4000000
def aL5 (n:Int) (cols:List Int):Bool:=cols.all fun c=>dW c 0 (n - 1)
def tT (r:List Int) (c:Int):Int:=r.getD c.toNat 0
def fF (r cols:List Int):List Int × Bool:=if aL5 r.length cols=true then (cols.map (tT r),true) else ([],false)
theorem iL {r cols:List Int} (h:cols.all (fun c=>dW c 0 ((r.length:Int) - 1))=true):fF r cols=(cols.map (tT r),true):=by rw [fF,if_pos (show aL5 _ _=true from h)]
theorem tU {r cols:List Int} (h:cols.all (fun c=>dW c 0 ((r.length:Int) - 1))=false):fF r cols=([],false):=by rw [fF,if_neg (by rw [show aL5 _ _=false from h];decide)]
theorem aL6 {r:List Int} {c x:Int} (h:r[c.toNat]? =some x):tT r c=x:=bD h
theorem aG2 (r cols:List Int):(fF r cols).1.length≤cols.length:=by
 unfold fF
 split<;>simp
def jB (b:Int) (cols:List Int) (i:Nat):Bool:=dW (cols.getD i 0) 0 b&&(decide (i=0) || decide (cols.getD (i - 1) 0<cols.getD i 0))
def dN (b:Int) (cols:List Int):Bool:=(List.range cols.length).all (jB b cols)
abbrev pD (r:List Int) (cols:List Int):AV × List (Nat × Rs):=(.tup [.own 0,vB ((fF r cols).2)],[(0,.arr 3 1 true (((fF r cols).1).map intD))])
abbrev sN (r:List Int) (cols:List Int):Prop:=cX Tryz.prog 154 [.one (.sl 3 1 (r.map intD)),.one (.sl 3 1 (cols.map intD))] (pD r cols).1 (pD r cols).2
theorem aCi (r cols:List Int) (hl:cols.length≤1048576):sN r cols:=by
 refine aX bG aR Tryz.func154 (by kernel_rfl) (.len cols.length<| .loop (Nat × (List Int)) (Q2 Nat (List Int)) [6,8,9,12,13,14,15,16,17,18,19,20,21,22,23,24,25,26,27,28,29] [900,2700,2800] (fun yy0=>[(12,vI (yy0.1:Int)),(6,.own 900)]) (fun yy0=>[(900,some (.arr 3 1 true (yy0.2.map intD)))]) (fun yy0=>yy0.1≤cols.length∧yy0.2=(cols.take yy0.1).map (tT r)∧(cols.take yy0.1).all (fun c=>dW c 0 ((r.length:Int) - 1))=true) (fun yy0=>cols.length - yy0.1) (fun yy0=> .br (.elem _ intD cols (fun e14=> .len r.length<| .call (vB (dW e14 (0:Int) (((r.length:Nat):Int) - (1:Int)))) []<| .br (.fin []) (.elem _ intD r (fun e25=> .app Int intD yy0.2 ([e25]:List Int)<| .back [(900,2800)])))) (.fin [(0,900)]))) (p:=(r.map intD).length≤9223372036854775807→(cols.map intD).length≤9223372036854775807→Lm intD cols∧((∃(k:Nat) (out:List Int),(0:Int)=(k:Int)∧[]=out.map intD∧k≤cols.length∧out=(cols.take k).map (tT r)∧(cols.take k).all (fun c=>dW c 0 ((r.length:Int) - 1))=true)∧ ∀(k:Nat) (out:List Int),(k≤cols.length∧out=(cols.take k).map (tT r)∧(cols.take k).all (fun c=>dW c 0 ((r.length:Int) - 1))=true)→((decide ((k:Int)<((cols.length:Nat):Int)))=true→0≤(k:Int)∧Em intD cols k fun e14=>Lm intD r∧(cC (((r.length:Nat):Int) - (1:Int))∧(fN e14 (0:Int) (((r.length:Nat):Int) - (1:Int))∧(((!(dW e14 (0:Int) (((r.length:Nat):Int) - (1:Int))))=true→(false)=((fF r cols).2)∧[]=((fF r cols).1).map intD∧True)∧((!(dW e14 (0:Int) (((r.length:Nat):Int) - (1:Int))))=false→0≤e14∧Em intD r ((e14).toNat) fun e25=>out.map intD=out.map intD∧[[.int .i64 e25]]=([e25]:List Int).map intD∧(∀x,dT (intD x)=true)∧(out.length+([e25]:List Int).length)*8≤140737488355328∧cC ((k:Int)+(1:Int))∧ ∃(k' :Nat) (out' :List Int),((k:Int)+(1:Int))=(k' :Int)∧(out++[e25]).map intD=out'.map intD∧(k' ≤cols.length∧out' =(cols.take k').map (tT r)∧(cols.take k').all (fun c=>dW c 0 ((r.length:Int) - 1))=true)∧cols.length - k' <cols.length - k)))))∧((decide ((k:Int)<((cols.length:Nat):Int)))=false→(true)=((fF r cols).2)∧out.map intD=((fF r cols).1).map intD∧True))) (by kernel_rfl) ?_
 intro n0 n1
 simp only [List.length_map] at n0 n1
 refine ⟨List.length_map _,⟨0,([]:List Int),rfl,rfl,Nat.zero_le _,rfl,rfl⟩,fun k out ⟨hk,ho,ha⟩=>?_⟩
 refine ⟨fun c0=>?_,fun c0=>?_⟩
 ·replace c0:=yq c0
  refine ⟨by omega,rfl,by omega,fun e14 h14=>?_⟩
  refine ⟨List.length_map _,⟨by omega,by omega⟩,jG _ _ _,fun c1=>?_,fun c1=>?_⟩
  ·replace c1:=nt c1
   refine ⟨?_,?_,trivial⟩
   ·first | (rw [tU (bU h14 c1)]<;>rfl) | (rw [iL (bE (by omega) ha),ho,List.take_of_length_le (by omega)]<;>rfl) | (rw [iL (bE (by omega) ha)]<;>rfl)
   ·first | (rw [tU (bU h14 c1)]<;>rfl) | (rw [iL (bE (by omega) ha),ho,List.take_of_length_le (by omega)]<;>rfl) | (rw [iL (bE (by omega) ha)]<;>rfl)
  ·replace c1:=nf c1
   have hb:=eY c1
   refine ⟨by omega,rfl,by omega,fun e25 h25=>?_⟩
   refine ⟨rfl,rfl,fun _=>rfl,by simp [ho];omega,?_⟩
   refine ⟨⟨by omega,by omega⟩,?_⟩
   exact ⟨k+1,_,rfl,rfl,⟨by omega,by rw [ho,bP h14,List.map_append,List.map_cons,List.map_nil,aL6 h25],cS h14 ha c1⟩,by omega⟩
 ·replace c0:=nq c0
  refine ⟨?_,?_,trivial⟩
  ·first | (rw [tU (bU h14 c1)]<;>rfl) | (rw [iL (bE (by omega) ha),ho,List.take_of_length_le (by omega)]<;>rfl) | (rw [iL (bE (by omega) ha)]<;>rfl)
  ·first | (rw [tU (bU h14 c1)]<;>rfl) | (rw [iL (bE (by omega) ha),ho,List.take_of_length_le (by omega)]<;>rfl) | (rw [iL (bE (by omega) ha)]<;>rfl)
abbrev pE (r:List Int) (cols:List Int):AV × List (Nat × Rs):=(.tup [.own 0,vB ((fF r cols).2)],[(0,.arr 3 1 true (((fF r cols).1).map intD))])
abbrev sO (r:List Int) (cols:List Int):Prop:=cX Tryz.prog 220 [.one (.sl 3 1 (r.map intD)),.one (.sl 3 1 (cols.map intD))] (pE r cols).1 (pE r cols).2
theorem aCj (r cols:List Int) (hl:cols.length≤1048576):sO r cols:=by
 refine aX bG aR Tryz.func220 (by kernel_rfl) (.loop (Nat × (List Int)) (Q2 Nat (List Int)) [6,7,8,9,10,11,12,13,14,15,16,17,18,19,20,21,22,23,25,26,27,28,29,30,31,32,33,34] [800,3300,3400] (fun yy0=>[(7,vI (yy0.1:Int)),(6,.own 800)]) (fun yy0=>[(800,some (.arr 3 1 true (yy0.2.map intD)))]) (fun yy0=>yy0.1≤cols.length∧yy0.2=(cols.take yy0.1).map (tT r)∧(cols.take yy0.1).all (fun c=>dW c 0 ((r.length:Int) - 1))=true) (fun yy0=>cols.length - yy0.1) (fun yy0=> .len cols.length<| .br (.elem _ intD cols (fun e17=> .len r.length<| .call (vB (dW e17 (0:Int) (((r.length:Nat):Int) - (1:Int)))) []<| .br (.fin [(0,2400)]) (.elem _ intD cols (fun e29=> .elem _ intD r (fun e31=> .app Int intD yy0.2 ([e31]:List Int)<| .back [(800,3400)]))))) (.fin [(0,800)]))) (p:=(r.map intD).length≤9223372036854775807→(cols.map intD).length≤9223372036854775807→(∃(k:Nat) (out:List Int),(0:Int)=(k:Int)∧[]=out.map intD∧k≤cols.length∧out=(cols.take k).map (tT r)∧(cols.take k).all (fun c=>dW c 0 ((r.length:Int) - 1))=true)∧ ∀(k:Nat) (out:List Int),(k≤cols.length∧out=(cols.take k).map (tT r)∧(cols.take k).all (fun c=>dW c 0 ((r.length:Int) - 1))=true)→Lm intD cols∧(((decide ((k:Int)<((cols.length:Nat):Int)))=true→0≤(k:Int)∧Em intD cols k fun e17=>Lm intD r∧(cC (((r.length:Nat):Int) - (1:Int))∧(fO e17 (0:Int) (((r.length:Nat):Int) - (1:Int))∧(((!(dW e17 (0:Int) (((r.length:Nat):Int) - (1:Int))))=true→(false)=((fF r cols).2)∧[]=((fF r cols).1).map intD∧True)∧((!(dW e17 (0:Int) (((r.length:Nat):Int) - (1:Int))))=false→0≤(k:Int)∧Em intD cols k fun e29=>0≤e29∧Em intD r ((e29).toNat) fun e31=>out.map intD=out.map intD∧[[.int .i64 e31]]=([e31]:List Int).map intD∧(∀x,dT (intD x)=true)∧(out.length+([e31]:List Int).length)*8≤140737488355328∧cC ((k:Int)+(1:Int))∧ ∃(k' :Nat) (out' :List Int),((k:Int)+(1:Int))=(k' :Int)∧(out++[e31]).map intD=out'.map intD∧(k' ≤cols.length∧out' =(cols.take k').map (tT r)∧(cols.take k').all (fun c=>dW c 0 ((r.length:Int) - 1))=true)∧cols.length - k' <cols.length - k)))))∧((decide ((k:Int)<((cols.length:Nat):Int)))=false→(true)=((fF r cols).2)∧out.map intD=((fF r cols).1).map intD∧True))) (by kernel_rfl) ?_
 intro n0 n1
 simp only [List.length_map] at n0 n1
 refine ⟨⟨0,([]:List Int),rfl,rfl,Nat.zero_le _,rfl,rfl⟩,fun k out ⟨hk,ho,ha⟩=>?_⟩
 refine ⟨List.length_map _,fun c0=>?_,fun c0=>?_⟩
 ·replace c0:=yq c0
  refine ⟨by omega,rfl,by omega,fun e17 h17=>?_⟩
  refine ⟨List.length_map _,⟨by omega,by omega⟩,jH _ _ _,fun c1=>?_,fun c1=>?_⟩
  ·replace c1:=nt c1
   refine ⟨?_,?_,trivial⟩
   ·first | (rw [tU (bU h17 c1)]<;>rfl) | (rw [iL (bE (by omega) ha),ho,List.take_of_length_le (by omega)]<;>rfl) | (rw [iL (bE (by omega) ha)]<;>rfl)
   ·first | (rw [tU (bU h17 c1)]<;>rfl) | (rw [iL (bE (by omega) ha),ho,List.take_of_length_le (by omega)]<;>rfl) | (rw [iL (bE (by omega) ha)]<;>rfl)
  ·replace c1:=nf c1
   have hb:=eY c1
   refine ⟨by omega,rfl,by omega,fun e29 h29=>?_⟩
   obtain rfl:=(aY h17 h29).symm
   refine ⟨by omega,rfl,by omega,fun e31 h31=>?_⟩
   refine ⟨rfl,rfl,fun _=>rfl,by simp [ho];omega,?_⟩
   refine ⟨⟨by omega,by omega⟩,?_⟩
   exact ⟨k+1,_,rfl,rfl,⟨by omega,by rw [ho,bP h17,List.map_append,List.map_cons,List.map_nil,aL6 h31],cS h17 ha c1⟩,by omega⟩
 ·replace c0:=nq c0
  refine ⟨?_,?_,trivial⟩
  ·first | (rw [tU (bU h17 c1)]<;>rfl) | (rw [iL (bE (by omega) ha),ho,List.take_of_length_le (by omega)]<;>rfl) | (rw [iL (bE (by omega) ha)]<;>rfl)
  ·first | (rw [tU (bU h17 c1)]<;>rfl) | (rw [iL (bE (by omega) ha),ho,List.take_of_length_le (by omega)]<;>rfl) | (rw [iL (bE (by omega) ha)]<;>rfl)
abbrev zL (cols:List Int) (a:Int):Prop:=cX Tryz.prog 224 [.one (.sl 3 1 (cols.map intD)),.one (.int .i64 a)] (vB (dN (a - 1) cols)) []
theorem aJR (cols:List Int) (a:Int) (ha:1≤a∧a≤3):zL cols a:=by
 refine aX bG aR Tryz.func224 (by kernel_rfl) (.len cols.length<| .loop Nat (Q1 Nat) [5,6,9,10,11,12,13,14,15,16,17,18,19,20,21,22,23,24,25,26,27,28,29,30,31,32] [] (fun k=>[(9,vI (k:Int))]) (fun k=>[]) (fun k=>k≤cols.length∧(List.range k).all (jB (a - 1) cols)=true) (fun k=>cols.length - k) (fun k=> .br (.elem _ intD cols (fun e12=> .call (vB (dW e12 (0:Int) (a - (1:Int)))) []<| .br (.fin []) (.lit<| .lit<| .br (.elem _ intD cols (fun e26=> .lit<| .lit<| .lit<| .lit<| .lit<| .lit<| .br (.fin []) (.back []))) (.back [])))) (.fin []))) (p:=(cols.map intD).length≤9223372036854775807→Lm intD cols∧((∃(k:Nat),(0:Int)=(k:Int)∧k≤cols.length∧(List.range k).all (jB (a - 1) cols)=true)∧ ∀(k:Nat),(k≤cols.length∧(List.range k).all (jB (a - 1) cols)=true)→((decide ((k:Int)<((cols.length:Nat):Int)))=true→0≤(k:Int)∧Em intD cols k fun e12=>cC (a - (1:Int))∧(fN e12 (0:Int) (a - (1:Int))∧(((!(dW e12 (0:Int) (a - (1:Int))))=true→(false)=(dN (a - 1) cols)∧True)∧((!(dW e12 (0:Int) (a - (1:Int))))=false→((decide ((0:Int)<(k:Int)))=true→cC ((k:Int) - (1:Int))∧(0≤((k:Int) - (1:Int))∧Em intD cols (((k:Int) - (1:Int)).toNat) fun e26=>((decide (e12≤e26))=true→(false)=(dN (a - 1) cols)∧True)∧((decide (e12≤e26))=false→cC ((k:Int)+(1:Int))∧ ∃(k' :Nat),((k:Int)+(1:Int))=(k' :Int)∧(k' ≤cols.length∧(List.range k').all (jB (a - 1) cols)=true)∧cols.length - k' <cols.length - k)))∧((decide ((0:Int)<(k:Int)))=false→cC ((k:Int)+(1:Int))∧ ∃(k' :Nat),((k:Int)+(1:Int))=(k' :Int)∧(k' ≤cols.length∧(List.range k').all (jB (a - 1) cols)=true)∧cols.length - k' <cols.length - k)))))∧((decide ((k:Int)<((cols.length:Nat):Int)))=false→(true)=(dN (a - 1) cols)∧True))) (by kernel_rfl) ?_
 intro n0
 simp only [List.length_map] at n0
 refine ⟨List.length_map _,⟨0,rfl,Nat.zero_le _,rfl⟩,fun k ⟨hk,hv⟩=>?_⟩
 refine ⟨fun c0=>?_,fun c0=>?_⟩
 ·replace c0:=yq c0
  refine ⟨by omega,rfl,by omega,fun e12 h12=>?_⟩
  refine ⟨⟨by omega,by omega⟩,jG _ _ _,fun g19=>?_,fun g19=>?_⟩
  ·replace g19:=nt g19
   have hp:jB (a - 1) cols k=false:=by rw [jB,bD h12,g19];rfl
   refine ⟨?_,trivial⟩
   ·first | (rw [dN,gB (by omega) hp];done) | (rw [dN,show cols.length=k by omega,hv];done)
  ·replace g19:=nf g19
   refine ⟨fun g22=>?_,fun g22=>?_⟩
   ·replace g22:=yq g22
    refine ⟨⟨by omega,by omega⟩,by omega,rfl,by omega,fun e26 h26=>?_⟩
    have i26:cols[k - 1]? =some e26:=by rw [←h26];congr 1;omega
    refine ⟨fun c1=>?_,fun c1=>?_⟩
    ·replace c1:=yq c1
     have hp:jB (a - 1) cols k=false:=by rw [jB,bD h12,bD i26,show decide (e26<e12)=false by simp;omega,show decide (k=0)=false by simp;omega];simp
     refine ⟨?_,trivial⟩
     ·first | (rw [dN,gB (by omega) hp];done) | (rw [dN,show cols.length=k by omega,hv];done)
    ·replace c1:=nq c1
     have hp:jB (a - 1) cols k=true:=by rw [jB,bD h12,g19,bD i26,show decide (e26<e12)=true by simp;omega];simp
     refine ⟨⟨by omega,by omega⟩,?_⟩
     exact ⟨k+1,rfl,⟨by omega,kD hv hp⟩,by omega⟩
   ·replace g22:=nq g22
    have hp:jB (a - 1) cols k=true:=by rw [jB,bD h12,g19,show decide (k=0)=true by simp;omega];rfl
    refine ⟨⟨by omega,by omega⟩,?_⟩
    exact ⟨k+1,rfl,⟨by omega,kD hv hp⟩,by omega⟩
 ·replace c0:=nq c0
  refine ⟨?_,trivial⟩
  ·first | (rw [dN,gB (by omega) hp];done) | (rw [dN,show cols.length=k by omega,hv];done)
theorem cN {t:aS} (h:aU t=true):1≤t.arity∧t.arity≤3∧t.rows.length≤8:=by
 simp only [aU,Bool.and_eq_true,decide_eq_true_eq] at h
 have:=eY h.2.2.1
 omega
theorem aG3 {t:aS} (h:aU t=true):IntKind.i64.wrap (t.arity - 1)=t.arity - 1:=by
 have:=cN h
 exact IntWalk.i64_in _ ⟨by omega,by omega⟩
theorem aNC {t:aS} {cols:List Int} (h:dN (IntKind.i64.wrap (t.arity - 1)) cols=false):(aU t&&dN (t.arity - 1) cols)=false:=by
 cases e:aU t with
 | false=>rfl
 | true=>rw [aG3 e] at h;rw [h];rfl
theorem aKT {t:aS} {cols:List Int} (h:dN (IntKind.i64.wrap (t.arity - 1)) cols=true):(aU t&&dN (t.arity - 1) cols)=aU t:=by
 cases e:aU t with
 | false=>rfl
 | true=>rw [aG3 e] at h;rw [h];rfl
abbrev zM (t:aS) (cols:List Int):Prop:=cX Tryz.prog 219 [.agg [.str t.name,.int .i64 t.arity,.sl 39 1 (t.rows.map aC)],.one (.sl 3 1 (cols.map intD))] (vB (aU t&&dN (t.arity - 1) cols)) []
theorem aJS (t:aS) (cols:List Int):zM t cols:=by
 refine aX bG aR Tryz.func219 (by kernel_rfl) (.loop Nat (Q1 Nat) [5,6,7,8,9,10,11,12,13,14,15,16,17,18,19,20,21,22,23,24,25,26,27,28,29,30,31,32,33,34,35,36] [] (fun k=>[(5,vI (k:Int))]) (fun k=>[]) (fun k=>k≤cols.length∧(List.range k).all (jB (IntKind.i64.wrap (t.arity - (1:Int))) cols)=true) (fun k=>cols.length - k) (fun k=> .len cols.length<| .br (.elem _ intD cols (fun e14=> .raw<| .call (vB (dW e14 (0:Int) (IntKind.i64.wrap (t.arity - (1:Int))))) []<| .br (.fin []) (.lit<| .lit<| .br (.elem _ intD cols (fun e28=> .elem _ intD cols (fun e32=> .lit<| .lit<| .lit<| .lit<| .lit<| .br (.fin []) (.back [])))) (.back [])))) (.call (vB (aU t)) []<| .fin []))) (p:=(t.rows.map aC).length≤9223372036854775807→(cols.map intD).length≤9223372036854775807→(∃(k:Nat),(0:Int)=(k:Int)∧k≤cols.length∧(List.range k).all (jB (IntKind.i64.wrap (t.arity - (1:Int))) cols)=true)∧ ∀(k:Nat),(k≤cols.length∧(List.range k).all (jB (IntKind.i64.wrap (t.arity - (1:Int))) cols)=true)→Lm intD cols∧(((decide ((k:Int)<((cols.length:Nat):Int)))=true→0≤(k:Int)∧Em intD cols k fun e14=>fO e14 (0:Int) (IntKind.i64.wrap (t.arity - (1:Int)))∧(((!(dW e14 (0:Int) (IntKind.i64.wrap (t.arity - (1:Int)))))=true→(false)=(aU t&&dN (t.arity - 1) cols)∧True)∧((!(dW e14 (0:Int) (IntKind.i64.wrap (t.arity - (1:Int)))))=false→((decide ((0:Int)<(k:Int)))=true→cC ((k:Int) - (1:Int))∧(0≤((k:Int) - (1:Int))∧Em intD cols (((k:Int) - (1:Int)).toNat) fun e28=>0≤(k:Int)∧Em intD cols k fun e32=>((decide (e32≤e28))=true→(false)=(aU t&&dN (t.arity - 1) cols)∧True)∧((decide (e32≤e28))=false→cC ((k:Int)+(1:Int))∧ ∃(k' :Nat),((k:Int)+(1:Int))=(k' :Int)∧(k' ≤cols.length∧(List.range k').all (jB (IntKind.i64.wrap (t.arity - (1:Int))) cols)=true)∧cols.length - k' <cols.length - k)))∧((decide ((0:Int)<(k:Int)))=false→cC ((k:Int)+(1:Int))∧ ∃(k' :Nat),((k:Int)+(1:Int))=(k' :Int)∧(k' ≤cols.length∧(List.range k').all (jB (IntKind.i64.wrap (t.arity - (1:Int))) cols)=true)∧cols.length - k' <cols.length - k))))∧((decide ((k:Int)<((cols.length:Nat):Int)))=false→pC t∧(aU t)=(aU t&&dN (t.arity - 1) cols)∧True))) (by kernel_rfl) ?_
 intro n0 n1
 simp only [List.length_map] at n0 n1
 refine ⟨⟨0,rfl,Nat.zero_le _,rfl⟩,fun k ⟨hk,hv⟩=>?_⟩
 refine ⟨List.length_map _,fun c0=>?_,fun c0=>?_⟩
 ·replace c0:=yq c0
  refine ⟨by omega,rfl,by omega,fun e14 h14=>?_⟩
  refine ⟨jH _ _ _,fun g21=>?_,fun g21=>?_⟩
  ·replace g21:=nt g21
   have hp:jB (IntKind.i64.wrap (t.arity - (1:Int))) cols k=false:=by rw [jB,bD h14,g21];rfl
   refine ⟨?_,trivial⟩
   ·first | (rw [aNC (by rw [dN,gB (by omega) hp])];done) | (rw [aKT (by rw [dN,show cols.length=k by omega,hv])];done)
  ·replace g21:=nf g21
   refine ⟨fun g24=>?_,fun g24=>?_⟩
   ·replace g24:=yq g24
    refine ⟨⟨by omega,by omega⟩,by omega,rfl,by omega,fun e28 h28=>?_⟩
    have i28:cols[k - 1]? =some e28:=by rw [←h28];congr 1;omega
    refine ⟨by omega,rfl,by omega,fun e32 h32=>?_⟩
    obtain rfl:=(aY h14 h32).symm
    refine ⟨fun c1=>?_,fun c1=>?_⟩
    ·replace c1:=yq c1
     have hp:jB (IntKind.i64.wrap (t.arity - (1:Int))) cols k=false:=by rw [jB,bD h14,bD i28,show decide (e28<e14)=false by simp;omega,show decide (k=0)=false by simp;omega];simp
     refine ⟨?_,trivial⟩
     ·first | (rw [aNC (by rw [dN,gB (by omega) hp])];done) | (rw [aKT (by rw [dN,show cols.length=k by omega,hv])];done)
    ·replace c1:=nq c1
     have hp:jB (IntKind.i64.wrap (t.arity - (1:Int))) cols k=true:=by rw [jB,bD h14,g21,bD i28,show decide (e28<e14)=true by simp;omega];simp
     refine ⟨⟨by omega,by omega⟩,?_⟩
     exact ⟨k+1,rfl,⟨by omega,kD hv hp⟩,by omega⟩
   ·replace g24:=nq g24
    have hp:jB (IntKind.i64.wrap (t.arity - (1:Int))) cols k=true:=by rw [jB,bD h14,g21,show decide (k=0)=true by simp;omega];rfl
    refine ⟨⟨by omega,by omega⟩,?_⟩
    exact ⟨k+1,rfl,⟨by omega,kD hv hp⟩,by omega⟩
 ·replace c0:=nq c0
  refine ⟨zK t,?_,trivial⟩
  ·first | (rw [aNC (by rw [dN,gB (by omega) hp])];done) | (rw [aKT (by rw [dN,show cols.length=k by omega,hv])];done)
abbrev aJT (l:List Int):AV × List (Nat × Rs):=(.own 0,[(0,.arr 3 1 true (l.map intD))])
abbrev aL7 (l:List Int):Prop:=cX Tryz.prog 187 [.one (.sl 3 1 (l.map intD))] (aJT l).1 (aJT l).2
theorem cpI (l:List Int) (hl:l.length≤1048576):aL7 l:=by
 refine aX bG aR Tryz.func187 (by kernel_rfl) (.app Int intD ([]:List Int) l<| .fin [(0,500)]) (p:=(l.map intD).length≤9223372036854775807→[]=([]:List Int).map intD∧l.map intD=l.map intD∧(∀x,dT (intD x)=true)∧(([]:List Int).length+l.length)*8≤140737488355328∧(([]:List Int)++l).map intD=l.map intD∧True) (by kernel_rfl) ?_
 intro n0
 simp only [List.length_map] at n0
 refine ⟨rfl,rfl,fun _=>rfl,by simp;omega,?_⟩
 refine ⟨?_,trivial⟩
 ·simp
abbrev aJU (l:List (List Int)):AV × List (Nat × Rs):=(.own 0,[(0,.arr 39 1 true (l.map aC))])
abbrev aL8 (l:List (List Int)):Prop:=cX Tryz.prog 188 [.one (.sl 39 1 (l.map aC))] (aJU l).1 (aJU l).2
theorem cpR (l:List (List Int)) (hc:cM l≤1048576):aL8 l:=by
 refine aX bG aR Tryz.func188 (by kernel_rfl) (.len l.length<| .loop (Nat × (List (List Int))) (Q2 Nat (List (List Int))) [3,5,6,9,10,11,12,13,14,15,16,17,18] [600,1500,1600,1700] (fun yy0=>[(3,.own 600),(9,vI (yy0.1:Int))]) (fun yy0=>[(600,some (.arr 39 1 true (yy0.2.map aC)))]) (fun yy0=>yy0.1≤l.length∧yy0.2=l.take yy0.1) (fun yy0=>l.length - yy0.1) (fun yy0=> .br (.elem _ aC l (fun e11=>cB (aJT e11)<| .appx (List Int) aC yy0.2 e11<| .back [(600,1700)])) (.fin [(0,600)]))) (p:=(l.map aC).length≤9223372036854775807→Lm aC l∧((∃(k:Nat) (out:List (List Int)),(0:Int)=(k:Int)∧[]=out.map aC∧k≤l.length∧out=l.take k)∧ ∀(k:Nat) (out:List (List Int)),(k≤l.length∧out=l.take k)→((decide ((k:Int)<((l.length:Nat):Int)))=true→0≤(k:Int)∧Em aC l k fun e11=>aL7 e11∧out.map aC=out.map aC∧e11.map intD=e11.map intD∧(out.length+1)*24≤140737488355328∧cC ((k:Int)+(1:Int))∧ ∃(k' :Nat) (out' :List (List Int)),((k:Int)+(1:Int))=(k' :Int)∧(out++[e11]).map aC=out'.map aC∧(k' ≤l.length∧out' =l.take k')∧l.length - k' <l.length - k)∧((decide ((k:Int)<((l.length:Nat):Int)))=false→out.map aC=l.map aC∧True))) (by kernel_rfl) ?_
 intro n0
 simp only [List.length_map] at n0
 have hlen:=fD l
 refine ⟨List.length_map _,⟨0,([]:List (List Int)),rfl,rfl,Nat.zero_le _,rfl⟩,fun k out ⟨hk,ho⟩=>?_⟩
 refine ⟨fun c0=>?_,fun c0=>?_⟩
 ·replace c0:=yq c0
  refine ⟨by omega,rfl,by omega,fun e11 h11=>?_⟩
  have h5:e11.length≤1048576:=by have:=nG h11;have:bS e11=e11.length:=rfl;omega
  refine ⟨cpI _ (by omega),rfl,rfl,by simp [ho];have:=fD l;omega,⟨by omega,by omega⟩,?_⟩
  exact ⟨k+1,out++[e11],rfl,rfl,⟨by omega,by rw [ho,bP h11]⟩,by omega⟩
 ·replace c0:=nq c0
  refine ⟨?_,trivial⟩
  ·rw [ho,List.take_of_length_le (by omega)]
end Go.Proofs.YtdfebigfnjfgpaaGreat
namespace Go.Proofs.YtdfebigfnjfgpaaGreat
open Go.ChangeShapes Go.WideShapes Go.ChangeAt Go.RowKit
set_option linter.unusedVariables false
set_option linter.unusedSimpArgs false
theorem aT0 (x:Int) (w:World):Calls Tryz.prog 266 #[.int .i64 x] w fun e w' =>e= .returned (.bool false)∧w' =w:=by
 go_enter Tryz.func266,Tryz.ntmps266
 go_wp2
 go_ret
 exact ⟨by simp,rfl⟩
theorem aL9 (x y:Int) (w:World):Calls Tryz.prog 252 #[.int .i64 x,.int .i64 y] w fun e w' =>e= .returned (.int .i64 (tI x y))∧w' =w:=by
 go_enter Tryz.func252,Tryz.ntmps252
 go_wp2_with (go_at_call 266;refine (aT0 _ _).mono ?_;rintro e w' ⟨rfl,hw⟩;rw [hw])
 all_goals (go_ret;refine ⟨?_,rfl⟩;unfold tI;(repeat' split)<;>first | rfl | (exfalso;omega))
def aBc (w:World) (a:Option Addr) (l:List Int):Prop:= ∀j x,l[j]? =some x→ ∃b o,a=some ⟨b,o,none⟩∧w.cell? ⟨b,o+j,none⟩=some (.int .i64 x)
set_option maxHeartbeats 1000000 in
theorem aLa (a1 a2:Option Addr) (c1 c2:Nat) (l m:List Int) (w:World) (hl:l.length≤9223372036854775807) (hm:m.length≤9223372036854775807) (h1:aBc w a1 l) (h2:aBc w a2 m):
 Calls Tryz.prog 239 #[.slice a1 l.length c1,.slice a2 m.length c2] w fun e w' =>e= .returned (.int .i64 (cG l m))∧w' =w:=by
 have H1:=Lib.hid h1
 have H2:=Lib.hid h2
 clear h1 h2
 go_enter Tryz.func239,Tryz.ntmps239
 go_wp2
 go_loop [5,6,7,8,11] (fun _ _ _ _ s=> ∃k:Nat,s= .int .i64 k∧k≤l.length∧k≤m.length∧cG (l.drop k) (m.drop k)=cG l m) (fun _ _ _ _ s=>l.length - (intOf s).toNat)
 case atStart=>exact ⟨0,rfl,Nat.zero_le _,Nat.zero_le _,rfl⟩
 case round=>
  obtain ⟨k,rfl,hk,hk2,hv⟩:=hrel
  have HV:=Lib.hid hv
  clear hv
  by_cases hlt:k<l.length
  ·obtain ⟨x,hx⟩:=cK hlt
   obtain ⟨b1,o1,rfl,g1⟩:=H1.out k x hx
   by_cases hlt2:k<m.length
   ·obtain ⟨y,hy⟩:=cK hlt2
    obtain ⟨b2,o2,rfl,g2⟩:=H2.out k y hy
    have HD:=Lib.hid (show cG l m=if tI x y=0 then cG (l.drop (k+1)) (m.drop (k+1)) else tI x y by rw [←HV.out,mL hx,mL hy,aJQ])
    by_cases hc:tI x y=0
    ·have HC:=Lib.hid hc
     clear hc
     go_wp2_with (go_at_call 252;refine (aL9 _ _ _).mono ?_;rintro e w' ⟨rfl,hw⟩;rw [hw,HC.out])
     exact ⟨⟨k+1,by simp,by omega,by omega,by rw [HD.out,if_pos HC.out]⟩,by simp [intOf];omega⟩
    ·have HC:=Lib.hid hc
     have hcb:(tI x y !=0)=true:=by simpa using hc
     clear hc
     go_wp2_with (go_at_call 252;refine (aL9 _ _ _).mono ?_;rintro e w' ⟨rfl,hw⟩;rw [hw])
     go_ret
     refine ⟨?_,rfl⟩
     rw [HD.out,if_neg HC.out];rfl
   ·have hge:m.length≤k:=by omega
    have HE:=Lib.hid (cO (l:=l) (m:=m) (k:=k) ⟨hk,hk2⟩ (.inr hlt2))
    go_wp2
    go_ret
    refine ⟨?_,rfl⟩
    rw [←HV.out,HE.out,if_neg (by omega),if_pos (by omega)];rfl
  ·have HE:=Lib.hid (cO (l:=l) (m:=m) (k:=k) ⟨hk,hk2⟩ (.inl hlt))
   by_cases hlm:l.length<m.length
   ·go_wp2
    go_ret
    refine ⟨?_,rfl⟩
    rw [←HV.out,HE.out,if_pos hlm];rfl
   ·go_wp2
    go_ret
    refine ⟨?_,rfl⟩
    rw [←HV.out,HE.out,if_neg hlm,if_neg (by omega)];rfl
theorem aRR (a1 a2:Option Addr) (c1 c2:Nat) (l m:List Int) (w:World) (hl:l.length≤9223372036854775807) (hm:m.length≤9223372036854775807) (h1:aBc w a1 l) (h2:aBc w a2 m):
 Calls Tryz.prog 231 #[.slice a1 l.length c1,.slice a2 m.length c2] w fun e w' =>e= .returned (.int .i64 (cG l m))∧w' =w:=by
 have HC:=Lib.hid (aLa a1 a2 c1 c2 l m w hl hm h1 h2)
 clear h1 h2
 go_enter Tryz.func231,Tryz.ntmps231
 go_wp2_with (go_at_call 239;refine HC.out.mono ?_;rintro e w' ⟨rfl,hw⟩;rw [hw])
 go_ret
 exact ⟨rfl,rfl⟩
end Go.Proofs.YtdfebigfnjfgpaaGreat
namespace Go.Proofs.YtdfebigfnjfgpaaGreat
open Go.ChangeShapes Go.WideShapes Go.ChangeAt Go.RowKit
set_option linter.unusedVariables false
set_option linter.unusedSimpArgs false
set_option maxRecDepth 100000
set_option maxHeartbeats 4000000
theorem aAi (l:List Int):cG l l=0:=fA.2 rfl
theorem rU: ∀{l m:List Int},cG l m<0↔0<cG m l
 | [],[]=>by simp [cG]
 | [],_::_=>by simp [cG]
 | _::_,[]=>by simp [cG]
 | a::l,b::m=>by
   simp only [cG]
   by_cases h1:a<b
   ·simp [h1,show ¬b<a by omega]
   ·by_cases h2:b<a
    ·simp [h1,h2]
    ·simp only [h1,h2,if_false];exact rU
theorem nB: ∀{l m n:List Int},cG l m<0→cG m n<0→cG l n<0
 | [],[],n,h1,_=>by simp [cG] at h1
 | [],_::_,[],_,h2=>by simp [cG] at h2
 | [],_::_,_::_,_,_=>by simp [cG]
 | _::_,[],n,h1,_=>by simp [cG] at h1
 | a::l,b::m,[],_,h2=>by simp [cG] at h2
 | a::l,b::m,c::n,h1,h2=>by
   simp only [cG] at*
   rcases Int.lt_trichotomy a b with ab | ab | ab
   ·rcases Int.lt_trichotomy b c with bc | bc | bc
    ·rw [if_pos (by omega)];decide
    ·subst bc;rw [if_pos ab];decide
    ·rw [if_neg (by omega),if_pos bc] at h2;exact absurd h2 (by decide)
   ·subst ab
    rcases Int.lt_trichotomy a c with bc | bc | bc
    ·rw [if_pos bc];decide
    ·subst bc
     rw [if_neg (by omega),if_neg (by omega)] at*
     exact nB h1 h2
    ·rw [if_neg (by omega),if_pos bc] at h2;exact absurd h2 (by decide)
   ·rw [if_neg (by omega),if_pos ab] at h1;exact absurd h1 (by decide)
theorem aEQ {l m n:List Int} (h1: ¬cG l m<0) (h2: ¬cG m n<0): ¬cG l n<0:=by
 intro h
 by_cases e:cG l m=0
 ·rw [fA.1 e] at h;exact h2 h
 ·exact h2 (nB (rU.2 (by omega)) h)
def leR (a b:List Int):Bool:=decide (cG a b≤0)
theorem aF6 {a b:List Int}:leR a b=true↔ ¬cG b a<0:=by
 rw [leR,decide_eq_true_eq]
 constructor
 ·intro h q
  have:=rU.1 q
  omega
 ·intro h
  have: ¬0<cG a b:=fun q=>h (rU.2 q)
  omega
theorem aKU {a b:List Int} (h1:leR a b=true) (h2:leR b a=true):a=b:=by
 rw [aF6] at h1 h2
 have: ¬0<cG a b:=fun q=>h1 (rU.2 q)
 exact fA.1 (by omega)
def dQ (l:List (List Int)):List (List Int):=l.mergeSort leR
theorem aBd (l:List (List Int)):(dQ l).Perm l:=List.mergeSort_perm l leR
theorem aG4 (l:List (List Int)):(dQ l).Pairwise (fun a b=>leR a b=true):=
 List.pairwise_mergeSort (fun a b c h1 h2=>by rw [aF6] at*;exact aEQ h2 h1) (fun a b=>by
  by_cases h:cG b a<0
  ·have:leR b a=true:=by rw [leR,decide_eq_true_eq];omega
   simp [this]
  ·have:leR a b=true:=aF6.2 h
   simp [this]) l
theorem aRS {l m:List (List Int)} (hp:m.Perm l) (hs:m.Pairwise (fun a b=>leR a b=true)):m=dQ l:=
 List.Perm.eq_of_pairwise (le:=fun a b=>leR a b=true) (fun a b _ _ h1 h2=>aKU h1 h2) hs (aG4 l) (hp.trans (aBd l).symm)
theorem aDj (l:List (List Int)):(dQ l).length=l.length:=(aBd l).length_eq
end Go.Proofs.YtdfebigfnjfgpaaGreat
namespace Go.Proofs.YtdfebigfnjfgpaaGreat
open Go.ChangeShapes Go.WideShapes Go.ChangeAt Go.RowKit Go.Shelf Go.Lib
set_option linter.unusedVariables false
set_option linter.unusedSimpArgs false
theorem aG5 {w:World} {k:Nat} {ι:Type} (f:ι→List bQ) (g:ι→List Value) (h:ι→List Nat): ∀{L:List ι},(∀i∈L,(f i).length=k∧dR w (f i) (g i) (h i))→dE w k (L.map f) (L.map g) (L.map h)
 | [],_=>by simp only [List.map_nil];unfold dE;exact ⟨rfl,rfl⟩
 | i::L,hL=>by
   simp only [List.map_cons]
   unfold dE
   exact ⟨_,_,_,_,rfl,rfl,(hL i (by simp)).1,(hL i (by simp)).2,aG5 f g h fun j hj=>hL j (by simp [hj])⟩
theorem aAj {w:World} {k:Nat}: ∀{xs:List (List bQ)} {css:List (List Value)} {Fs:List (List Nat)},dE w k xs css Fs→css.length=xs.length∧Fs.length=xs.length
 | [],_,_,h=>by unfold dE at h;rw [h.1,h.2];exact ⟨rfl,rfl⟩
 | x::xs,_,_,h=>by
   unfold dE at h
   obtain ⟨c,css',F,Fs',rfl,rfl,_,_,h3⟩:=h
   have:=aAj h3
   simp [this.1,this.2]
theorem zN {w:World} {k:Nat}: ∀{xs:List (List bQ)} {css:List (List Value)} {Fs:List (List Nat)} {i:Nat} {x:List bQ},dE w k xs css Fs→xs[i]? =some x→ ∃c F,css[i]? =some c∧Fs[i]? =some F∧x.length=k∧dR w x c F
 | [],_,_,_,_,_,hx=>by simp at hx
 | y::xs,_,_,0,x,h,hx=>by
   unfold dE at h
   obtain ⟨c,css',F,Fs',rfl,rfl,h1,h2,_⟩:=h
   simp at hx;subst hx
   exact ⟨c,F,rfl,rfl,h1,h2⟩
 | y::xs,_,_,i+1,x,h,hx=>by
   unfold dE at h
   obtain ⟨c,css',F,Fs',rfl,rfl,_,_,h3⟩:=h
   simp at hx
   simpa using zN h3 hx
theorem qM: ∀(l:List (List Value)) (i:Nat) (v:Value),(∀d∈l,d.length=1)→l[i]? =some [v]→l.flatten[i]? =some v
 | [],i,v,_,h=>by simp at h
 | d::l,0,v,hd,h=>by simp at h;subst h;simp
 | d::l,i+1,v,hd,h=>by
   have h1:=hd d (by simp)
   rw [List.flatten_cons,List.getElem?_append_right (by omega),h1]
   exact qM l i v (fun d' hd' =>hd d' (by simp [hd'])) (by simpa using h)
theorem aG6 {ι:Type} (f:ι→Value): ∀L:List ι,(L.map fun i=>[f i]).flatten=L.map f
 | []=>rfl
 | i::L=>by rw [List.map_cons,List.flatten_cons,aG6 f L];rfl
theorem aCk: ∀(l:List (List Value)),(∀d∈l,d.length=1)→l.flatten.length=l.length
 | [],_=>rfl
 | d::l,hd=>by
   rw [List.flatten_cons,List.length_append,hd d (by simp),aCk l fun d' hd' =>hd d' (by simp [hd'])]
   simp;omega
theorem aTp {w:World} {e:Nat} {r:List Int} {c:List Value} {F:List Nat} (h:dR w [.sl e 1 (r.map intD)] c F): ∃a cap,c= [.slice a r.length cap]∧aBc w a r∧(∀x∈a,x.block∈F)∧r.length≤9223372036854775807:=by
 unfold dR at h
 obtain ⟨v,cs',F1,F2,rfl,rfl,h1,h2⟩:=h
 unfold dR at h2
 obtain ⟨rfl,rfl⟩:=h2
 unfold sA at h1
 obtain ⟨css,Fs,q1,q2,q3⟩:=h1
 rcases q1.2 with ⟨rfl,hz⟩ | ⟨g,cap,cur,rfl,_,hb,hn,hcap2,hsz,htk⟩
 ·simp at hz
  subst hz
  exact ⟨none,0,rfl,fun j x hx=>by simp at hx,by simp,by simp⟩
 ·refine ⟨some ⟨g,0,none⟩,cap,by simp,fun j x hx=>⟨g,0,rfl,?_⟩,fun x hx=>?_,by have:cap≤maxLen:=hcap2;unfold maxLen at this;simp at hn;omega⟩
  ·obtain ⟨c0,F0,g1,_,_,g4⟩:=zN q3 (show (r.map intD)[j]? =some (intD x) by rw [List.getElem?_map,hx];rfl)
   unfold intD dR at g4
   obtain ⟨v0,cs0,_,_,rfl,_,g5,g6⟩:=g4
   unfold dR at g6
   obtain ⟨rfl,_⟩:=g6
   unfold sA at g5
   obtain ⟨rfl,_⟩:=g5
   have hlen: ∀d∈css,d.length=1:=fun d hd=>by
    obtain ⟨i,hi⟩:=List.getElem?_of_mem hd
    have hil:i<(r.map intD).length:=by
     have:=(aAj q3).1
     have:=(List.getElem?_eq_some_iff.1 hi).1
     omega
    obtain ⟨c1,F1,k1,_,k3,k4⟩:=zN q3 (List.getElem?_eq_getElem hil)
    rw [hi] at k1
    injection k1 with k1;subst k1
    rw [List.getElem_map] at k4
    unfold intD dR at k4
    obtain ⟨_,_,_,_,rfl,_,_,k6⟩:=k4
    unfold dR at k6
    rw [k6.1];rfl
   have hflat:css.flatten[j]? =some (.int .i64 x):=by
    exact qM css j _ hlen g1
   have hj:j<r.length:=(List.getElem?_eq_some_iff.1 hx).1
   simp only [World.cell?,hb,Nat.zero_add,Option.isSome_none,Bool.false_eq_true,if_false]
   rw [←Array.getElem?_toList,←hflat,←htk,List.getElem?_take_of_lt (by simpa using hj)]
  ·simp at hx
   subst hx
   rw [q2]
   simp [Value.ownBlock]
theorem aJV {w:World} {enc:Nat→Value} {g n:Nat} {os:Array Obj} {cur:Array Value} {e:TypeId} {fr:Nat × Nat} (d:Array Nat) (hb:w.heap[g]? =some (.cells cur e fr)):
 (sortWorld enc w g 0 n d os).heap[g]? =some (.cells (Go.Sort.putCells enc 0 d cur) e fr):=by
 have hg:g<w.heap.size:=(Array.getElem?_eq_some_iff.1 hb).1
 unfold sortWorld
 rw [Go.Sort.heap_grow_old _ _ (by simpa using hg)]
 simp [Go.Sort.putRow,Go.Sort.mapBlock,Go.Sort.ahead,Array.getElem?_modify,hb,Go.Sort.onCells]
theorem sP {w:World} {enc:Nat→Value} {g n k:Nat} {os:Array Obj} (d:Array Nat) (hk:k<w.heap.size) (hne:k≠g):(sortWorld enc w g 0 n d os).heap[k]? =w.heap[k]? :=by
 unfold sortWorld
 rw [Go.Sort.heap_grow_old _ _ (by simpa using hk)]
 simp [Go.Sort.putRow,Go.Sort.mapBlock,Go.Sort.ahead,Array.getElem?_modify,Ne.symm hne]
theorem aLc (enc:Nat→Value) (cur:Array Value) (ts:List Nat) (h:ts.length≤cur.size):(Go.Sort.putCells enc 0 ts.toArray cur).toList.take ts.length=ts.map enc:=by
 apply List.ext_getElem?
 intro j
 by_cases hj:j<ts.length
 ·rw [List.getElem?_take_of_lt hj,Array.getElem?_toList]
  simp [Go.Sort.putCells,hj,show j<cur.size by omega]
 ·rw [List.getElem?_take_eq_none (by omega),List.getElem?_eq_none (by simp;omega)]
theorem aAk {w w' :World} {a:Option Addr} {r:List Int} (h:aBc w a r) (hk: ∀x∈a,w'.heap[x.block]? =w.heap[x.block]?):aBc w' a r:=fun j x hx=>by
 obtain ⟨b,o,rfl,hc⟩:=h j x hx
 refine ⟨b,o,rfl,?_⟩
 have:=hk ⟨b,o,none⟩ rfl
 unfold World.cell? at*
 simp only at*
 rw [this];exact hc
end Go.Proofs.YtdfebigfnjfgpaaGreat
namespace Go.Proofs
open Go.Shelf
namespace YtdfebigfnjfgpaaGreat
def Tryz.sortRows_ren : Go.Shelf.Ren := ⟨fun | 6 => 232 | 15 => 238 | 14 => 240 | 28 => 250 | 29 => 251 | 20 => 253 | 21 => 254 | 22 => 255 | 23 => 256 | 24 => 257 | 25 => 258 | 26 => 259 | 27 => 260 | 46 => 267 | 47 => 262 | 48 => 263 | 49 => 268 | 50 => 269 | 57 => 271 | n => n, fun | 22 => 78 | 24 => 39 | 25 => 222 | 3 => 3 | 39 => 239 | 0 => 0 | 53 => 251 | 55 => 253 | 4 => 4 | 46 => 243 | 45 => 242 | 50 => 248 | 5 => 5 | 9 => 9 | 66 => 259 | 70 => 263 | 76 => 268 | 77 => 269 | n => n, fun | n => n⟩
theorem Tryz.sortRows : Go.Proofs.SlLaysF.n6 Tryz.prog Tryz.sortRows_ren := {
  mixed := by kernel_rfl
  f6 := ⟨Tryz.f232.name, by decide, Tryz.func232.trans (congrArg some (by kernel_rfl))⟩
  f14 := ⟨Tryz.f240.name, by decide, Tryz.func240.trans (congrArg some (by kernel_rfl))⟩
  f15 := Tryz.func238.trans (congrArg some (by kernel_rfl))
  f20 := ⟨Tryz.f253.name, by decide, Tryz.func253.trans (congrArg some (by kernel_rfl))⟩
  f21 := ⟨Tryz.f254.name, by decide, Tryz.func254.trans (congrArg some (by kernel_rfl))⟩
  f22 := ⟨Tryz.f255.name, by decide, Tryz.func255.trans (congrArg some (by kernel_rfl))⟩
  f23 := ⟨Tryz.f256.name, by decide, Tryz.func256.trans (congrArg some (by kernel_rfl))⟩
  f24 := ⟨Tryz.f257.name, by decide, Tryz.func257.trans (congrArg some (by kernel_rfl))⟩
  f25 := ⟨Tryz.f258.name, by decide, Tryz.func258.trans (congrArg some (by kernel_rfl))⟩
  f26 := ⟨Tryz.f259.name, by decide, Tryz.func259.trans (congrArg some (by kernel_rfl))⟩
  f27 := ⟨Tryz.f260.name, by decide, Tryz.func260.trans (congrArg some (by kernel_rfl))⟩
  f28 := Tryz.func250.trans (congrArg some (by kernel_rfl))
  f29 := Tryz.func251.trans (congrArg some (by kernel_rfl))
  f46 := ⟨Tryz.f267.name, by decide, Tryz.func267.trans (congrArg some (by kernel_rfl))⟩
  f47 := Tryz.func262.trans (congrArg some (by kernel_rfl))
  f48 := Tryz.func263.trans (congrArg some (by kernel_rfl))
  f49 := ⟨Tryz.f268.name, by decide, Tryz.func268.trans (congrArg some (by kernel_rfl))⟩
  f50 := ⟨Tryz.f269.name, by decide, Tryz.func269.trans (congrArg some (by kernel_rfl))⟩
  f57 := ⟨Tryz.f271.name, by decide, Tryz.func271.trans (congrArg some (by kernel_rfl))⟩
  t0 := Tryz.underlying0
  a0 := Tryz.isAgg0
  z0 := Tryz.sizeOf0
  v0 := Tryz.zeroValue0
  t3 := Tryz.underlying3
  a3 := Tryz.isAgg3
  z3 := Tryz.sizeOf3
  v3 := Tryz.zeroValue3
  t4 := Tryz.underlying4
  a4 := Tryz.isAgg4
  z4 := Tryz.sizeOf4
  v4 := Tryz.zeroValue4
  t5 := Tryz.underlying5
  a5 := Tryz.isAgg5
  z5 := Tryz.sizeOf5
  v5 := Tryz.zeroValue5
  t9 := Tryz.underlying9
  a9 := Tryz.isAgg9
  z9 := Tryz.sizeOf9
  v9 := Tryz.zeroValue9
  t22 := Tryz.underlying78
  a22 := Tryz.isAgg78
  z22 := Tryz.sizeOf78
  v22 := Tryz.zeroValue78
  a24 := Tryz.isAgg39
  z24 := Tryz.sizeOf39
  t25 := Tryz.underlying222
  a25 := Tryz.isAgg222
  z25 := Tryz.sizeOf222
  v25 := Tryz.zeroValue222
  t39 := Tryz.underlying239
  a39 := Tryz.isAgg239
  z39 := Tryz.sizeOf239
  v39 := Tryz.zeroValue239
  t45 := Tryz.underlying242
  a45 := Tryz.isAgg242
  z45 := Tryz.sizeOf242
  v45 := Tryz.zeroValue242
  t46 := Tryz.underlying243
  a46 := Tryz.isAgg243
  z46 := Tryz.sizeOf243
  v46 := Tryz.zeroValue243
  t50 := Tryz.underlying248
  a50 := Tryz.isAgg248
  z50 := Tryz.sizeOf248
  v50 := Tryz.zeroValue248
  t53 := Tryz.underlying251
  a53 := Tryz.isAgg251
  z53 := Tryz.sizeOf251
  v53 := Tryz.zeroValue251
  t55 := Tryz.underlying253
  a55 := Tryz.isAgg253
  z55 := Tryz.sizeOf253
  v55 := Tryz.zeroValue253
  t66 := Tryz.underlying259
  a66 := Tryz.isAgg259
  z66 := Tryz.sizeOf259
  v66 := Tryz.zeroValue259
  t70 := Tryz.underlying263
  a70 := Tryz.isAgg263
  z70 := Tryz.sizeOf263
  v70 := Tryz.zeroValue263
  t76 := Tryz.underlying268
  a76 := Tryz.isAgg268
  z76 := Tryz.sizeOf268
  v76 := Tryz.zeroValue268
  t77 := Tryz.underlying269
  a77 := Tryz.isAgg269
  z77 := Tryz.sizeOf269
  v77 := Tryz.zeroValue269 }
end YtdfebigfnjfgpaaGreat
end Go.Proofs
namespace Go.Proofs.YtdfebigfnjfgpaaGreat
open Go.ChangeShapes Go.WideShapes Go.ChangeAt Go.RowKit Go.Shelf Go.Lib
set_option linter.unusedVariables false
set_option linter.unusedSimpArgs false
set_option maxHeartbeats 2000000 in
theorem aRT (l:List (List Int)) (hl:l.length<4611686018427387904):nA Tryz.prog 232 [.own 0,.fn 231 []] [(0,.arr 39 1 true (l.map aC))] (.tup []) [(0,.arr 39 1 true ((dQ l).map aC))]:=by
 refine ⟨by kernel_rfl,by simp,fun A φ w vs hI hm=>?_⟩
 obtain ⟨pl,hp,css,Fs,q1,q2,q3,q4⟩:=hI.dom 0 _ rfl
 unfold aT at hm
 obtain ⟨v,us,e1,m1,hm⟩:=hm
 unfold aT at hm
 obtain ⟨v2,us2,e2,m2,hm⟩:=hm
 unfold aT at hm
 unfold aH at m1 m2
 obtain ⟨vs2,ev2,m3⟩:=m2
 unfold aT at m3
 have hv:=m1 pl hp
 have e3:vs2= #[]:=by apply Array.ext';simpa using m3
 have ev:vs= #[pl.val,.func (.func 231) #[] #[]]:=by apply Array.ext';rw [e1,e2,hm,hv,ev2,e3]
 rw [ev]
 have hnd:=hI.nodup 0 pl hp
 have hge:=hI.ge 0 pl hp
 have hFe:pl.F=pl.val.ownBlock.toList++Fs.flatten:=by unfold Pl.F;rw [q2,q3]
 have hfoot: ∀b∈pl.F,aKG φ b:=fun b hb=>⟨0,pl,trivial,hp,hb⟩
 have h0: ∀h pl',φ h=some pl' →h=0:=fun h pl' e' =>by
  cases hr:bC [(0,Rs.arr 39 1 true (l.map aC))] h with
  | none=>rw [hI.non h hr] at e';cases e'
  | some r=>
    simp only [bC] at hr
    split at hr
    ·assumption
    ·cases hr
 obtain ⟨lc,lF⟩:=aAj q4
 rw [List.length_map] at lc lF
 have hrow: ∀i,i<l.length→ ∃a cap F,css[i]? =some [.slice a (l.getD i []).length cap]∧Fs[i]? =some F∧aBc w a (l.getD i [])∧(∀x∈a,x.block∈F)∧(l.getD i []).length≤9223372036854775807∧dR w (aC (l.getD i [])) [.slice a (l.getD i []).length cap] F:=fun i hi=>by
  obtain ⟨r,hr⟩:=cK hi
  have hg:l.getD i []=r:=by simp [List.getD_eq_getElem?_getD,hr]
  obtain ⟨c,F,g1,g2,_,g4⟩:=zN q4 (show (l.map aC)[i]? =some (aC r) by rw [List.getElem?_map,hr];rfl)
  obtain ⟨a,cap,rfl,k1,k2,k3⟩:=aTp g4
  rw [hg]
  exact ⟨a,cap,F,g1,g2,k1,k2,k3,g4⟩
 have hone: ∀d∈css,d.length=1:=fun d hd=>by
  obtain ⟨i,hi⟩:=List.getElem?_of_mem hd
  obtain ⟨a,cap,F,g1,_⟩:=hrow i (by have:=(List.getElem?_eq_some_iff.1 hi).1;omega)
  rw [hi] at g1
  injection g1 with g1
  rw [g1];rfl
 let enc:Nat→Value:=fun i=>css.flatten.getD i (.slice none 0 0)
 have henc: ∀i,∃a cap,enc i= .slice a (l.getD i []).length cap∧aBc w a (l.getD i [])∧(∀x∈a,x.block∈Fs.flatten)∧(l.getD i []).length≤9223372036854775807:=fun i=>by
  by_cases hi:i<l.length
  ·obtain ⟨a,cap,F,g1,g2,g3,g4,g5,_⟩:=hrow i hi
   refine ⟨a,cap,?_,g3,fun x hx=>List.mem_flatten.2 ⟨F,List.mem_of_getElem? g2,g4 x hx⟩,g5⟩
   show css.flatten.getD i _=_
   rw [List.getD_eq_getElem?_getD,qM css i _ hone g1];rfl
  ·have hg:l.getD i []= []:=by rw [List.getD_eq_getElem?_getD,List.getElem?_eq_none (by omega)];rfl
   rw [hg]
   refine ⟨none,0,?_,fun j x hx=>by simp at hx,by simp,by simp⟩
   show css.flatten.getD i _=_
   rw [List.getD_eq_getElem?_getD,List.getElem?_eq_none (by rw [aCk css hone];omega)];rfl
 have hend: ∀(d' :List Nat) (w' :World),d'.Perm (List.range l.length)→(d'.map fun i=>l.getD i []).Pairwise (fun a b=>leR a b=true)→mN pl.F w w' →(∀F∈Fs,jJ F w w')→w'.ownsRow 0 39 1 pl.val l.length (d'.map enc)→
  ∃v K φ',Ending.returned (.tuple #[])= .returned v∧aOq A φ w [(0,.arr 39 1 true ((dQ l).map aC))] K φ' w' ∧aH K φ' w' (.tup []) v:=by
  intro d' w' hperm hsort hon hkeep howns
  have hrange:(List.range l.length).map (fun i=>l.getD i [])=l:=by
   apply List.ext_getElem?
   intro i
   by_cases hi:i<l.length
   ·simp [hi]
   ·simp [hi]
  have hl' :d'.map (fun i=>l.getD i [])=dQ l:=aRS (by have:=hperm.map (fun i=>l.getD i []);rwa [hrange] at this) hsort
  have hFr:(List.range l.length).map (fun i=>Fs.getD i [])=Fs:=by
   apply List.ext_getElem?
   intro i
   by_cases hi:i<l.length
   ·simp [hi,show i<Fs.length by omega]
   ·simp [hi,show ¬i<Fs.length by omega]
  have hFp:(d'.map fun i=>Fs.getD i []).flatten.Perm Fs.flatten:=by
   have:=(hperm.map (fun i=>Fs.getD i [])).flatten
   rwa [hFr] at this
  let pl' :Pl:=⟨pl.val,pl.top,(d'.map fun i=>Fs.getD i []).flatten⟩
  have hmem: ∀g,g∈pl'.F↔g∈pl.F:=fun g=>by
   simp only [pl',Pl.F,List.mem_append,q3,hFp.mem_iff]
  have hnd' :pl'.F.Nodup:=by
   have:pl'.F.Perm pl.F:=by simp only [pl',Pl.F,q3];exact (List.Perm.refl _).append hFp
   exact this.nodup_iff.2 hnd
  refine ⟨_,A,fun h=>if h=0 then some pl' else none,rfl,⟨⟨hon.os,hon.tape,hon.output,hon.size,fun b hb hn=>hon.block b hb (fun hm=>hn (hfoot b hm))⟩,fun _ h=>h,fun b hb=>⟨Nat.lt_of_lt_of_le (hI.lt b hb) hon.size,.inl hb⟩,fun b hb h pl1 e' hm' =>?_,fun h r hr=>?_,fun h hr=>?_,fun h h' pl1 pl2 hne ea eb=>?_,fun h pl1 e' =>?_,fun h pl1 e' g hg=>?_,fun h pl1 pl0 e' e0=>?_⟩,?_⟩
  ·split at e'
   ·injection e' with e';subst e'
    exact hI.out b hb 0 pl hp ((hmem b).1 hm')
   ·cases e'
  ·simp only [bC] at hr
   split at hr
   ·rename_i eh
    subst eh
    injection hr with hr
    subst hr
    refine ⟨pl',by simp,d'.map (fun i=>[enc i]),d'.map (fun i=>Fs.getD i []),?_,q2,rfl,?_⟩
    ·have e4:(d'.map fun i=>[enc i]).flatten=d'.map enc:=aG6 enc d'
     rw [e4,List.length_map,aDj];exact howns
    ·rw [←hl',List.map_map]
     refine aG5 (fun i=>aC (l.getD i [])) (fun i=>[enc i]) (fun i=>Fs.getD i []) fun i hi=>⟨rfl,?_⟩
     have hil:i<l.length:=by simpa using hperm.mem_iff.1 hi
     obtain ⟨a,cap,F,g1,g2,g3,g4,g5,g6⟩:=hrow i hil
     have ee:enc i= .slice a (l.getD i []).length cap:=by
      show css.flatten.getD i _=_
      rw [List.getD_eq_getElem?_getD,qM css i _ hone g1];rfl
     have eF:Fs.getD i []=F:=by simp [List.getD_eq_getElem?_getD,g2]
     rw [ee,eF]
     exact dR.kept _ _ _ (hkeep F (List.mem_of_getElem? g2)) g6
   ·cases hr
  ·simp only [bC] at hr
   split at hr
   ·cases hr
   ·rename_i eh;exact if_neg eh
  ·split at ea
   ·split at eb
    ·rename_i x y;exact absurd (x.trans y.symm) hne
    ·cases eb
   ·cases ea
  ·split at e'
   ·injection e' with e';subst e';exact hnd'
   ·cases e'
  ·split at e'
   ·injection e' with e';subst e'
    have:=(hmem g).1 hg
    exact ⟨.inr (hfoot g this),Nat.lt_of_lt_of_le (hge g this) hon.size⟩
   ·cases e'
  ·split at e'
   ·rename_i eh
    subst eh
    rw [hp] at e0
    injection e0 with e0;injection e' with e'
    subst e0;subst e'
    exact ⟨rfl,rfl⟩
   ·cases e'
  ·unfold aH
   exact ⟨#[],rfl,by unfold aT;rfl⟩
 rw [List.length_map] at q1
 rcases q1.2 with ⟨hvn,hz⟩ | ⟨g,cap,cur,hvv,hg0,hb,hn,hcap,hsz,htk⟩
 ·have hcon:=AnyF.slices_SortFunc_none { Tryz.sortRows with } none 0 (.func (.func 231) #[] #[]) w
  change Calls Tryz.prog 232 _ _ _ at hcon
  rw [hvn]
  refine hcon.mono ?_
  rintro en w' ⟨rfl,rfl⟩
  have hz' :l= []:=List.eq_nil_of_length_eq_zero hz
  subst hz'
  exact hend [] w' (by simp) (by simp) (mN.refl _ _) (fun F hF g hg=>rfl) (by rw [hvn];exact ⟨by simp,.inl ⟨rfl,rfl⟩⟩)
 ·have hgF:g ∉ Fs.flatten:=fun hm=>by
   rw [hFe,hvv] at hnd
   simp only [Value.ownBlock,Option.toList_some,List.cons_append,List.nil_append,List.nodup_cons] at hnd
   exact hnd.1 hm
  have hgs:g<w.heap.size:=(Array.getElem?_eq_some_iff.1 hb).1
  have hin: ∀b∈Fs.flatten,b<w.heap.size∧b≠g:=fun b hb' =>⟨hge b (by rw [hFe];exact List.mem_append_right _ hb'),fun e=>hgF (e▸hb')⟩
  have hO:Go.Sort.SWO (ltOf fun x y:Nat=>cG (l.getD x []) (l.getD y [])):=
   { irrefl:=fun x=>by show decide (cG (l.getD x []) (l.getD x [])<0)=false;rw [aAi];rfl
     trans:=fun x y z h1 h2=>by unfold ltOf at*;rw [decide_eq_true_eq] at*;exact nB h1 h2
     ntrans:=fun x y z h1 h2=>by unfold ltOf at*;rw [decide_eq_false_iff_not] at*;exact aEQ h1 h2 }
  have hcmp:CmpLays1 Tryz.prog 231 #[] enc (fun x y:Nat=>cG (l.getD x []) (l.getD y [])) g 0 (List.range l.length).toArray.size w:=fun m os dk hs x y=>by
   obtain ⟨a1,c1,ex,r1,k1,b1⟩:=henc x
   obtain ⟨a2,c2,ey,r2,k2,b2⟩:=henc y
   rw [ex,ey]
   refine (aRR a1 a2 c1 c2 _ _ _ b1 b2 (aAk r1 fun q hq=>sP dk (hin _ (k1 q hq)).1 (hin _ (k1 q hq)).2) (aAk r2 fun q hq=>sP dk (hin _ (k2 q hq)).1 (hin _ (k2 q hq)).2)).mono ?_
   rintro en w' ⟨rfl,rfl⟩
   exact ⟨rfl,0,#[],by simp [Go.Sort.grow_empty,World.drewN]⟩
  have htk' :cur.toList.take l.length=css.flatten:=by rw [Nat.mul_one] at htk;exact htk
  have hH:Go.Sort.Holds enc w g 0 (List.range l.length).toArray:=fun j hj=>by
   have hj' :j<l.length:=by simpa using hj
   refine ⟨?_,by simp [World.frozen?,hb]⟩
   have h1:(cur.toList.take l.length)[j]? =css.flatten[j]? :=by rw [htk']
   rw [List.getElem?_take_of_lt hj'] at h1
   simp only [World.cell?,hb,Nat.zero_add,Option.isSome_none,Bool.false_eq_true,if_false]
   rw [←Array.getElem?_toList,h1]
   obtain ⟨a,cap',F,g1,_⟩:=hrow j hj'
   have h2:=qM css j _ hone g1
   have ee:enc j= .slice a (l.getD j []).length cap' :=by
    show css.flatten.getD j _=_
    rw [List.getD_eq_getElem?_getD,h2];rfl
   have ej:(List.range l.length).toArray[j]! =j:=by simp [hj']
   rw [h2,ej,ee]
  have hone1:OneCell enc:=fun x=>by
   obtain ⟨a,c,ex,_⟩:=henc x
   rw [ex];rfl
  have eg: ∀args w,(callFunc 231 args).run Tryz.prog w= .ok (.enter 231 args) w:=enters_of Tryz.func231 (by kernel_rfl) rfl
  have hcon:=Any.slices_SortFunc Tryz.sortRows enc hone1 (fun x y:Nat=>cG (l.getD x []) (l.getD y [])) hO 231 #[] g 0 cap (List.range l.length).toArray w eg hcmp hH hgs (by simpa using hl)
  change Calls Tryz.prog 232 _ _ _ at hcon
  have hsz1:((List.range l.length).toArray.size:Nat)=l.length:=by simp
  rw [hsz1] at hcon
  rw [hvv]
  refine hcon.mono ?_
  rintro en w' ⟨rfl,d',n,os,hpm,hsd,rfl⟩
  obtain ⟨p1,_,p3⟩:=hpm
  have hds:d'.size=l.length:=by simpa using p1
  have hperm:d'.toList.Perm (List.range l.length):=by
   have e1:(d'.extract 0 l.length).toList=d'.toList:=by rw [←hds];simp
   have e2:((List.range l.length).toArray.extract 0 l.length).toList=List.range l.length:=by simp
   rw [e1,e2] at p3;exact p3
  have hkb: ∀k,k<w.heap.size→k≠g→(sortWorld enc w g 0 n d' os).heap[k]? =w.heap[k]? :=fun k hk hne=>sP d' hk hne
  have:=hend d'.toList (sortWorld enc w g 0 n d' os) hperm (by
   rw [List.pairwise_map,List.pairwise_iff_getElem]
   intro i j hi hj hij
   have:=hsd i j (Nat.zero_le _) hij (by simpa [hds] using hj)
   unfold ltOf at this
   rw [decide_eq_false_iff_not] at this
   rw [aF6]
   have ei:d'[i]! =d'.toList[i]:=by simp at hi;simp [hi]
   have ej:d'[j]! =d'.toList[j]:=by simp at hj;simp [hj]
   rw [←ei,←ej];exact this)
   ⟨rfl,rfl,rfl,by simp [sortWorld],fun k hk hne=>hkb k hk (fun e=>hne (by rw [hFe,hvv,e];simp [Value.ownBlock]))⟩
   (fun F hF b hb' =>hkb b (hin b (List.mem_flatten.2 ⟨F,hF,hb'⟩)).1 (hin b (List.mem_flatten.2 ⟨F,hF,hb'⟩)).2)
   (by
    rw [hvv]
    refine ⟨by simp [hds],.inr ⟨g,cap,_,rfl,hg0,aJV d' hb,hn,hcap,by simp [Go.Sort.putCells,hsz],?_⟩⟩
    rw [Nat.mul_one]
    have:=aLc enc cur d'.toList (by rw [Array.length_toList,hds];omega)
    rw [Array.length_toList,hds] at this
    simpa using this)
  exact this
end Go.Proofs.YtdfebigfnjfgpaaGreat
namespace Go.Proofs.YtdfebigfnjfgpaaGreat
open Go.ChangeShapes Go.WideShapes Go.ChangeAt Go.RowKit
set_option linter.unusedVariables false
set_option linter.unusedSimpArgs false
theorem aT1 {l m:List Int} {k:Nat} {x y:Int} (hx:l[k]? =some x) (hy:m[k]? =some y) (h:(x==y)=false):decide (l=m)=false:=by
 rw [decide_eq_false_iff_not]
 rintro rfl
 rw [hx] at hy
 injection hy with hy
 subst hy
 simp at h
set_option maxHeartbeats 1000000 in
theorem aPE (a1 a2:Option Addr) (c1 c2:Nat) (l m:List Int) (w:World) (hl:l.length≤9223372036854775807) (hm:m.length≤9223372036854775807) (h1:aBc w a1 l) (h2:aBc w a2 m):
 Calls Tryz.prog 226 #[.slice a1 l.length c1,.slice a2 m.length c2] w fun e w' =>e= .returned (.bool (decide (l=m)))∧ ∃q,w' =w.drewN q:=by
 have mixed:=aR
 have H1:=Lib.hid h1
 have H2:=Lib.hid h2
 clear h1 h2
 by_cases hlm:l.length=m.length
 ·have HL:=Lib.hid hlm
  go_enter Tryz.func226,Tryz.ntmps226
  go_wp2
  go_loopg [13] l.length (fun g s wr=> ∃k q:Nat,k≤l.length∧l.length - k≤g∧s= .int .i64 k∧wr=w.drewN q∧Aside (l.take k=m.take k))
  case atStart=>exact ⟨0,0,Nat.zero_le _,by omega,rfl,rfl,rfl⟩
  case round=>
   obtain ⟨k,q,hk,hg,rfl,rfl,A⟩:=hrel
   by_cases hlt:k<l.length
   ·obtain ⟨x,hx⟩:=cK hlt
    obtain ⟨b1,o1,rfl,g1⟩:=H1.out k x hx
    obtain ⟨y,hy⟩:=cK (l:=m) (k:=k) (by omega)
    obtain ⟨b2,o2,rfl,g2⟩:=H2.out k y hy
    have HX:=Lib.hid hx
    have HY:=Lib.hid hy
    clear hx hy
    cases hxy:(x==y) with
    | true=>
      have hne:(x !=y)=false:=by rw [bne,hxy];rfl
      go_wp2_with fail
      go_region_o
      go_wp2
      go_roundg (l.length - (k+1))
      case measure=>omega
      case rel=>exact ⟨k+1,q+1,by omega,by omega,by go_num,rfl,(show Aside _ from nH HX.out (by rw [HY.out,show x=y by simpa using hxy]) A.out)⟩
    | false=>
      have hne:(x !=y)=true:=by rw [bne,hxy];rfl
      go_wp2_with fail
      go_region_o
      go_wp2
      go_ret
      refine ⟨?_,q+1,rfl⟩
      rw [aT1 HX.out HY.out hxy]
      rfl
   ·go_wp2
    go_ret
    refine ⟨?_,q,rfl⟩
    rw [decide_eq_true (gQ (by omega) HL.out A.out)]
    rfl
 ·have hnm: ¬(l.length:Int)=(m.length:Int):=by omega
  go_enter Tryz.func226,Tryz.ntmps226
  go_wp2
  go_ret
  refine ⟨?_,0,rfl⟩
  rw [decide_eq_false (pB hnm)]
  rfl
theorem aT2 (a1 a2:Option Addr) (c1 c2:Nat) (l m:List Int) (w:World) (hl:l.length≤9223372036854775807) (hm:m.length≤9223372036854775807) (h1:aBc w a1 l) (h2:aBc w a2 m):
 Calls Tryz.prog 234 #[.slice a1 l.length c1,.slice a2 m.length c2] w fun e w' =>e= .returned (.bool (decide (l=m)))∧ ∃q,w' =w.drewN q:=by
 have HC:=Lib.hid (aPE a1 a2 c1 c2 l m w hl hm h1 h2)
 clear h1 h2
 go_enter Tryz.func234,Tryz.ntmps234
 go_wp2_with (go_at_call 226;refine HC.out.mono ?_;rintro e w' ⟨rfl,q,hw⟩;rw [hw])
 go_ret
 exact ⟨rfl,_,rfl⟩
end Go.Proofs.YtdfebigfnjfgpaaGreat
