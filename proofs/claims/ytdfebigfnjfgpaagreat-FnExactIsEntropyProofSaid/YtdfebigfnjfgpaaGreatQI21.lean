/-
  Contracts and plain laws, joined: part 22.
-/
import Derived.Test.YtdfebigfnjfgpaaGreatQI20
import Derived.Test.YtdfebigfnjfgpaaGreatQI17
import Derived.Test.YtdfebigfnjfgpaaGreatQI18
namespace Go.Proofs.YtdfebigfnjfgpaaGreat
open Go.ChangeShapes Go.WideShapes Go.ChangeAt Go.RowKit
set_option linter.unusedVariables false
set_option linter.unusedSimpArgs false
set_option maxRecDepth 100000
set_option maxHeartbeats 4000000
abbrev aB5 (p:cM) (ys:List RationalD):AV × List (Nat × Rs):=(.tup [.agg [vI (((lA p ys).1).num),vI (((lA p ys).1).den)],vB ((lA p ys).2)],[])
abbrev aHF (p:cM) (ys:List RationalD):Prop:=cT Tryz.prog 58 [.agg [.sl 3 1 (p.objective.map intD),.sl 39 1 (p.rows.map aA),.sl 3 1 (p.limits.map intD)],.one (.sl 70 2 (ys.map aU))] (aB5 p ys).1 (aB5 p ys).2
theorem aRd (p:cM) (ys:List RationalD) (hrs: ∀r∈p.rows,r.length≤1048576):aHF p ys:=by
 refine aT bE aL Tryz.func58 (by kernel_rfl) (.call (vB (dD p)) []<| .br (.fin []) (bV (sZ p.limits ys)<| .fin [])) (p:=(p.objective.map intD).length≤9223372036854775807→(p.rows.map aA).length≤9223372036854775807→(p.limits.map intD).length≤9223372036854775807→(ys.map aU).length≤9223372036854775807→sW p∧(((!(dD p))=true→(0:Int)=(((lA p ys).1).num)∧(0:Int)=(((lA p ys).1).den)∧(false)=((lA p ys).2)∧True)∧((!(dD p))=false→zE p.limits ys∧(((iF p.limits ys).1).num)=(((lA p ys).1).num)∧(((iF p.limits ys).1).den)=(((lA p ys).1).den)∧((iF p.limits ys).2)=((lA p ys).2)∧True))) (by kernel_rfl) ?_
 intro n0 n1 n2 n3
 simp only [List.length_map] at n0 n1 n2 n3
 refine ⟨aDX p (by first | assumption | exact hrs),fun c0=>?_,fun c0=>?_⟩
 ·replace c0:=nt c0
  refine ⟨?_,?_,?_,trivial⟩
  ·first | (rw [lB c0]<;>rfl) | (rw [fG c0]<;>rfl)
  ·first | (rw [lB c0]<;>rfl) | (rw [fG c0]<;>rfl)
  ·first | (rw [lB c0]<;>rfl) | (rw [fG c0]<;>rfl)
 ·replace c0:=nf c0
  refine ⟨aJB p.limits ys,?_,?_,?_,trivial⟩
  ·first | (rw [lB c0]<;>rfl) | (rw [fG c0]<;>rfl)
  ·first | (rw [lB c0]<;>rfl) | (rw [fG c0]<;>rfl)
  ·first | (rw [lB c0]<;>rfl) | (rw [fG c0]<;>rfl)
abbrev aB6 (p:cM) (ys:List RationalD):AV × List (Nat × Rs):=(.tup [.agg [vI (((lA p ys).1).num),vI (((lA p ys).1).den)],vB ((lA p ys).2)],[])
abbrev aHG (p:cM) (ys:List RationalD):Prop:=cT Tryz.prog 52 [.agg [.sl 3 1 (p.objective.map intD),.sl 39 1 (p.rows.map aA),.sl 3 1 (p.limits.map intD)],.one (.sl 70 2 (ys.map aU))] (aB6 p ys).1 (aB6 p ys).2
theorem aRe (p:cM) (ys:List RationalD):aHG p ys:=by
 refine aT bE aL Tryz.func52 (by kernel_rfl) (.call (vB (dD p)) []<| .br (.fin []) (.len ys.length<| .len p.limits.length<| .lit<| .lit<| .br (.fin []) (bV (vS p.limits ys)<| .fin []))) (p:=(p.objective.map intD).length≤9223372036854775807→(p.rows.map aA).length≤9223372036854775807→(p.limits.map intD).length≤9223372036854775807→(ys.map aU).length≤9223372036854775807→sX p∧(((!(dD p))=true→(0:Int)=(((lA p ys).1).num)∧(0:Int)=(((lA p ys).1).den)∧(false)=((lA p ys).2)∧True)∧((!(dD p))=false→Lm aU ys∧(Lm intD p.limits∧(((!(decide (((ys.length:Nat):Int)=((p.limits.length:Nat):Int))))=true→(0:Int)=(((lA p ys).1).num)∧(0:Int)=(((lA p ys).1).den)∧(false)=((lA p ys).2)∧True)∧((!(decide (((ys.length:Nat):Int)=((p.limits.length:Nat):Int))))=false→aB4 p.limits ys∧(((iH p.limits ys (bF 0)).1).num)=(((lA p ys).1).num)∧(((iH p.limits ys (bF 0)).1).den)=(((lA p ys).1).den)∧((iH p.limits ys (bF 0)).2)=((lA p ys).2)∧True)))))) (by kernel_rfl) ?_
 intro n0 n1 n2 n3
 simp only [List.length_map] at n0 n1 n2 n3
 refine ⟨aDY p,fun g11=>?_,fun g11=>?_⟩
 ·replace g11:=nt g11
  refine ⟨?_,?_,?_,trivial⟩
  ·first | (rw [lB g11]<;>rfl) | (rw [fG g11,gE (by omega)]<;>rfl) | (rw [fG g11,bZ (by omega)]<;>rfl)
  ·first | (rw [lB g11]<;>rfl) | (rw [fG g11,gE (by omega)]<;>rfl) | (rw [fG g11,bZ (by omega)]<;>rfl)
  ·first | (rw [lB g11]<;>rfl) | (rw [fG g11,gE (by omega)]<;>rfl) | (rw [fG g11,bZ (by omega)]<;>rfl)
 ·replace g11:=nf g11
  refine ⟨List.length_map _,List.length_map _,fun c0=>?_,fun c0=>?_⟩
  ·replace c0:=nq (nt c0)
   refine ⟨?_,?_,?_,trivial⟩
   ·first | (rw [lB g11]<;>rfl) | (rw [fG g11,gE (by omega)]<;>rfl) | (rw [fG g11,bZ (by omega)]<;>rfl)
   ·first | (rw [lB g11]<;>rfl) | (rw [fG g11,gE (by omega)]<;>rfl) | (rw [fG g11,bZ (by omega)]<;>rfl)
   ·first | (rw [lB g11]<;>rfl) | (rw [fG g11,gE (by omega)]<;>rfl) | (rw [fG g11,bZ (by omega)]<;>rfl)
  ·replace c0:=yq (nf c0)
   refine ⟨aL9 p.limits ys,?_,?_,?_,trivial⟩
   ·first | (rw [lB g11]<;>rfl) | (rw [fG g11,gE (by omega)]<;>rfl) | (rw [fG g11,bZ (by omega)]<;>rfl)
   ·first | (rw [lB g11]<;>rfl) | (rw [fG g11,gE (by omega)]<;>rfl) | (rw [fG g11,bZ (by omega)]<;>rfl)
   ·first | (rw [lB g11]<;>rfl) | (rw [fG g11,gE (by omega)]<;>rfl) | (rw [fG g11,bZ (by omega)]<;>rfl)
abbrev aHH (l:List RationalD) (n:Int):Prop:=cT Tryz.prog 82 [.one (.sl 70 2 (l.map aU)),.one (.int .i64 n)] (vB (decide ((l.length:Int)=n)&&l.all bI)) []
theorem aRf (l:List RationalD) (n:Int):aHH l n:=by
 refine aT bE aL Tryz.func82 (by kernel_rfl) (.len l.length<| .loop Nat (Q1 Nat) [6,9,10,11,12,13,14,15,16] [600] (fun k=>[(9,vI (k:Int))]) (fun k=>[]) (fun k=>k≤l.length∧(l.take k).all bI=true) (fun k=>l.length - k) (fun k=> .br (.elem _ aU l (fun e11=> .call (vB (bI e11)) []<| .br (.fin []) (.back []))) (.len l.length<| .fin []))) (p:=(l.map aU).length≤9223372036854775807→Lm aU l∧((∃(k:Nat),(0:Int)=(k:Int)∧k≤l.length∧(l.take k).all bI=true)∧ ∀(k:Nat),(k≤l.length∧(l.take k).all bI=true)→((decide ((k:Int)<((l.length:Nat):Int)))=true→0≤(k:Int)∧Em aU l k fun e11=>iC e11∧(((!(bI e11))=true→(false)=(decide ((l.length:Int)=n)&&l.all bI)∧True)∧((!(bI e11))=false→cC ((k:Int)+(1:Int))∧ ∃(k' :Nat),((k:Int)+(1:Int))=(k' :Int)∧(k' ≤l.length∧(l.take k').all bI=true)∧l.length - k' <l.length - k)))∧((decide ((k:Int)<((l.length:Nat):Int)))=false→Lm aU l∧(decide (((l.length:Nat):Int)=n))=(decide ((l.length:Int)=n)&&l.all bI)∧True))) (by kernel_rfl) ?_
 intro n0
 simp only [List.length_map] at n0
 refine ⟨List.length_map _,⟨0,rfl,Nat.zero_le _,rfl⟩,fun k ⟨hk,ha⟩=>?_⟩
 refine ⟨fun c0=>?_,fun c0=>?_⟩
 ·replace c0:=yq c0
  refine ⟨by omega,rfl,by omega,fun e11 h11=>?_⟩
  refine ⟨lJ e11,fun c1=>?_,fun c1=>?_⟩
  ·replace c1:=nt c1
   refine ⟨?_,trivial⟩
   ·first | (rw [bU h11 c1,Bool.and_false];done) | (rw [bB (by omega) ha,Bool.and_true];done)
  ·replace c1:=nf c1
   refine ⟨⟨by omega,by omega⟩,?_⟩
   exact ⟨k+1,rfl,⟨by omega,cR h11 ha c1⟩,by omega⟩
 ·replace c0:=nq c0
  refine ⟨List.length_map _,?_,trivial⟩
  ·first | (rw [bU h11 c1,Bool.and_false];done) | (rw [bB (by omega) ha,Bool.and_true];done)
abbrev aJC (l:List RationalD) (n:Int):Prop:=cT Tryz.prog 40 [.one (.sl 70 2 (l.map aU)),.one (.int .i64 n)] (vB (kR l n)) []
theorem aSx (l:List RationalD) (n:Int):aJC l n:=by
 refine aT bE aL Tryz.func40 (by kernel_rfl) (.len l.length<| .loop Nat (Q1 Nat) [6,9,10,11,12,13,14,15,16] [600] (fun k=>[(9,vI (k:Int))]) (fun k=>[]) (fun k=>k≤l.length∧(l.take k).all (fun r=> !decide (r.num<0))=true) (fun k=>l.length - k) (fun k=> .br (.elem _ aU l (fun e11=> .br (.fin []) (.back []))) (.call (vB (decide ((l.length:Int)=n)&&l.all bI)) []<| .fin []))) (p:=(l.map aU).length≤9223372036854775807→Lm aU l∧((∃(k:Nat),(0:Int)=(k:Int)∧k≤l.length∧(l.take k).all (fun r=> !decide (r.num<0))=true)∧ ∀(k:Nat),(k≤l.length∧(l.take k).all (fun r=> !decide (r.num<0))=true)→((decide ((k:Int)<((l.length:Nat):Int)))=true→0≤(k:Int)∧Em aU l k fun e11=>((decide (e11.num<(0:Int)))=true→(false)=(kR l n)∧True)∧((decide (e11.num<(0:Int)))=false→cC ((k:Int)+(1:Int))∧ ∃(k' :Nat),((k:Int)+(1:Int))=(k' :Int)∧(k' ≤l.length∧(l.take k').all (fun r=> !decide (r.num<0))=true)∧l.length - k' <l.length - k))∧((decide ((k:Int)<((l.length:Nat):Int)))=false→aHH l n∧(decide ((l.length:Int)=n)&&l.all bI)=(kR l n)∧True))) (by kernel_rfl) ?_
 intro n0
 simp only [List.length_map] at n0
 refine ⟨List.length_map _,⟨0,rfl,Nat.zero_le _,rfl⟩,fun k ⟨hk,ha⟩=>?_⟩
 refine ⟨fun c0=>?_,fun c0=>?_⟩
 ·replace c0:=yq c0
  refine ⟨by omega,rfl,by omega,fun e11 h11=>?_⟩
  refine ⟨fun c1=>?_,fun c1=>?_⟩
  ·replace c1:=yq c1
   refine ⟨?_,trivial⟩
   ·first | (rw [qS,bU (p:=fun r:RationalD=> !decide (r.num<0)) h11 (by rw [decide_eq_true c1];rfl),Bool.and_false];done) | (rw [qS,bB (by omega) ha,Bool.and_true];done)
  ·replace c1:=nq c1
   refine ⟨⟨by omega,by omega⟩,?_⟩
   exact ⟨k+1,rfl,⟨by omega,cR h11 ha (by rw [decide_eq_false c1];rfl)⟩,by omega⟩
 ·replace c0:=nq c0
  refine ⟨aRf l n,?_,trivial⟩
  ·first | (rw [qS,bU (p:=fun r:RationalD=> !decide (r.num<0)) h11 (by rw [decide_eq_true c1];rfl),Bool.and_false];done) | (rw [qS,bB (by omega) ha,Bool.and_true];done)
abbrev aHI (l:List RationalD):Prop:=cT Tryz.prog 31 [.one (.sl 70 2 (l.map aU))] (vB (l.all tG)) []
theorem aRg (l:List RationalD):aHI l:=by
 refine aT bE aL Tryz.func31 (by kernel_rfl) (.loop Nat (Q1 Nat) [3,4,5,6,7,8,9,10,11,12,13,14,15,16,17,18,19,20,21,22,23] [] (fun k=>[(3,vI (k:Int))]) (fun k=>[]) (fun k=>k≤l.length∧(l.take k).all tG=true) (fun k=>l.length - k) (fun k=> .len l.length<| .br (.elem _ aU l (fun e12=> .call (vB (bI e12)) []<| .br (.fin []) (.elem _ aU l (fun e19=> .lit<| .lit<| .lit<| .lit<| .br (.fin []) (.back []))))) (.fin []))) (p:=(l.map aU).length≤9223372036854775807→(∃(k:Nat),(0:Int)=(k:Int)∧k≤l.length∧(l.take k).all tG=true)∧ ∀(k:Nat),(k≤l.length∧(l.take k).all tG=true)→Lm aU l∧(((decide ((k:Int)<((l.length:Nat):Int)))=true→0≤(k:Int)∧Em aU l k fun e12=>jP e12∧(((!(bI e12))=true→(false)=(l.all tG)∧True)∧((!(bI e12))=false→0≤(k:Int)∧Em aU l k fun e19=>((decide (e19.num<(0:Int)))=true→(false)=(l.all tG)∧True)∧((decide (e19.num<(0:Int)))=false→cC ((k:Int)+(1:Int))∧ ∃(k' :Nat),((k:Int)+(1:Int))=(k' :Int)∧(k' ≤l.length∧(l.take k').all tG=true)∧l.length - k' <l.length - k))))∧((decide ((k:Int)<((l.length:Nat):Int)))=false→(true)=(l.all tG)∧True))) (by kernel_rfl) ?_
 intro n0
 simp only [List.length_map] at n0
 refine ⟨⟨0,rfl,Nat.zero_le _,rfl⟩,fun k ⟨hk,ha⟩=>?_⟩
 refine ⟨List.length_map _,fun c0=>?_,fun c0=>?_⟩
 ·replace c0:=yq c0
  refine ⟨by omega,rfl,by omega,fun e12 h12=>?_⟩
  refine ⟨mP e12,fun g16=>?_,fun g16=>?_⟩
  ·replace g16:=nt g16
   refine ⟨?_,trivial⟩
   ·first | (rw [bU h12 (by rw [tG,g16];rfl)];done) | (rw [bU h12 (by rw [tG,g16,decide_eq_true c1];rfl)];done) | (rw [bB (by omega) ha];done)
  ·replace g16:=nf g16
   refine ⟨by omega,rfl,by omega,fun e19 h19=>?_⟩
   obtain rfl:=(aY h12 h19).symm
   refine ⟨fun c1=>?_,fun c1=>?_⟩
   ·replace c1:=yq c1
    refine ⟨?_,trivial⟩
    ·first | (rw [bU h12 (by rw [tG,g16];rfl)];done) | (rw [bU h12 (by rw [tG,g16,decide_eq_true c1];rfl)];done) | (rw [bB (by omega) ha];done)
   ·replace c1:=nq c1
    refine ⟨⟨by omega,by omega⟩,?_⟩
    exact ⟨k+1,rfl,⟨by omega,cR h12 ha (by rw [tG,g16,decide_eq_false c1];rfl)⟩,by omega⟩
 ·replace c0:=nq c0
  refine ⟨?_,trivial⟩
  ·first | (rw [bU h12 (by rw [tG,g16];rfl)];done) | (rw [bU h12 (by rw [tG,g16,decide_eq_true c1];rfl)];done) | (rw [bB (by omega) ha];done)
abbrev aEY (p:cM) (ys:List RationalD):Prop:=cT Tryz.prog 57 [.agg [.sl 3 1 (p.objective.map intD),.sl 39 1 (p.rows.map aA),.sl 3 1 (p.limits.map intD)],.one (.sl 70 2 (ys.map aU))] (vB (eQ p ys)) []
theorem aPH (p:cM) (ys:List RationalD) (hrs: ∀r∈p.rows,r.length≤1048576):aEY p ys:=by
 refine aT bE aL Tryz.func57 (by kernel_rfl) (.call (vB (dD p)) []<| .br (.fin []) (.len p.rows.length<| .call (vB (kR ys ((p.rows.length:Nat):Int))) []<| .lit<| .lit<| .br (.fin []) (.len p.objective.length<| .loop Nat (Q1 Nat) [5,6,7,9,10,11,26,27,28,29,30,31,32,33,34,35,36,37,38,39,40,41,42,43,44,45,46,47,48,49,50,51,52,53,54,55,56,57,58,59,60,61,62] [1000,3100,4400,4500] (fun k=>[(26,vI (k:Int))]) (fun k=>[]) (fun k=>k≤p.objective.length∧(List.range k).all (gR p ys)=true) (fun k=>p.objective.length - k) (fun k=> .br (.elem _ intD p.objective (fun e29=> .len p.rows.length<| .loop (Nat × (List Int)) (Q2 Nat (List Int)) [7,9,31,35,36,37,38,39,40,41,42,43,44,45,46] [3100,4400,4500] (fun yy1=>[(35,vI (yy1.1:Int)),(7,.own 3100)]) (fun yy1=>[(3100,some (.arr 3 1 true (yy1.2.map intD)))]) (fun yy1=>yy1.1≤p.rows.length∧yy1.2=uC (p.rows.take yy1.1) k) (fun yy1=>p.rows.length - yy1.1) (fun yy1=> .br (.elem _ aA p.rows (fun e37=> .elem _ intD e37 (fun e42=> .app Int intD yy1.2 ([e42]:List Int)<| .back [(3100,4500)]))) (bV (sZ yy1.2 ys)<| .br (.fin []) (.call (.agg [vI ((bF e29).num),vI ((bF e29).den)]) []<| .call (vI (dM ((iF yy1.2 ys).1) (bF e29))) []<| .lit<| .lit<| .br (.fin []) (.back [])))))) (.fin []))))) (p:=(p.objective.map intD).length≤9223372036854775807→(p.rows.map aA).length≤9223372036854775807→(p.limits.map intD).length≤9223372036854775807→(ys.map aU).length≤9223372036854775807→sW p∧(((!(dD p))=true→(false)=(eQ p ys)∧True)∧((!(dD p))=false→Lm aA p.rows∧(aJC ys ((p.rows.length:Nat):Int)∧(((!(kR ys ((p.rows.length:Nat):Int)))=true→(false)=(eQ p ys)∧True)∧((!(kR ys ((p.rows.length:Nat):Int)))=false→Lm intD p.objective∧((∃(k:Nat),(0:Int)=(k:Int)∧k≤p.objective.length∧(List.range k).all (gR p ys)=true)∧ ∀(k:Nat),(k≤p.objective.length∧(List.range k).all (gR p ys)=true)→((decide ((k:Int)<((p.objective.length:Nat):Int)))=true→0≤(k:Int)∧Em intD p.objective k fun e29=>Lm aA p.rows∧((∃(i:Nat) (cl:List Int),(0:Int)=(i:Int)∧[]=cl.map intD∧i≤p.rows.length∧cl=uC (p.rows.take i) k)∧ ∀(i:Nat) (cl:List Int),(i≤p.rows.length∧cl=uC (p.rows.take i) k)→((decide ((i:Int)<((p.rows.length:Nat):Int)))=true→0≤(i:Int)∧Em aA p.rows i fun e37=>0≤(k:Int)∧Em intD e37 k fun e42=>cl.map intD=cl.map intD∧[[.int .i64 e42]]=([e42]:List Int).map intD∧(∀x,eL (intD x)=true)∧(cl.length+([e42]:List Int).length)*8≤140737488355328∧cC ((i:Int)+(1:Int))∧ ∃(i' :Nat) (cl' :List Int),((i:Int)+(1:Int))=(i' :Int)∧(cl++[e42]).map intD=cl'.map intD∧(i' ≤p.rows.length∧cl' =uC (p.rows.take i') k)∧p.rows.length - i' <p.rows.length - i)∧((decide ((i:Int)<((p.rows.length:Nat):Int)))=false→zE cl ys∧(((!((iF cl ys).2))=true→(false)=(eQ p ys)∧True)∧((!((iF cl ys).2))=false→aAY e29∧(aB0 ((iF cl ys).1) (bF e29)∧(((decide ((dM ((iF cl ys).1) (bF e29))<(0:Int)))=true→(false)=(eQ p ys)∧True)∧((decide ((dM ((iF cl ys).1) (bF e29))<(0:Int)))=false→cC ((k:Int)+(1:Int))∧ ∃(k' :Nat),((k:Int)+(1:Int))=(k' :Int)∧(k' ≤p.objective.length∧(List.range k').all (gR p ys)=true)∧p.objective.length - k' <p.objective.length - k))))))))∧((decide ((k:Int)<((p.objective.length:Nat):Int)))=false→(true)=(eQ p ys)∧True)))))))) (by kernel_rfl) ?_
 intro n0 n1 n2 n3
 simp only [List.length_map] at n0 n1 n2 n3
 refine ⟨aDX p (by first | assumption | exact hrs),fun g15=>?_,fun g15=>?_⟩
 ·replace g15:=nt g15
  have hbad:eQ p ys=false:=by first | (rw [eQ,g15];rfl) | (rw [eQ,g15,c0];rfl)
  refine ⟨?_,trivial⟩
  ·first | (rw [hbad];done) | (rw [hX];done) | (rw [eQ,hp,hN,show p.objective.length=k by omega,ha];rfl)
 ·replace g15:=nf g15
  refine ⟨List.length_map _,aSx ys ((p.rows.length:Nat):Int),fun c0=>?_,fun c0=>?_⟩
  ·replace c0:=nt c0
   have hbad:eQ p ys=false:=by first | (rw [eQ,g15];rfl) | (rw [eQ,g15,c0];rfl)
   refine ⟨?_,trivial⟩
   ·first | (rw [hbad];done) | (rw [hX];done) | (rw [eQ,hp,hN,show p.objective.length=k by omega,ha];rfl)
  ·replace c0:=nf c0
   have hp:dD p=true:=g15
   have hN:kR ys p.rows.length=true:=c0
   obtain ⟨b1,b2,b3,b4,b5⟩:=aBU hp
   have hyl:ys.length=p.rows.length:=by have z:=hN;rw [kR,Bool.and_eq_true,decide_eq_true_eq] at z;omega
   refine ⟨List.length_map _,⟨0,rfl,Nat.zero_le _,rfl⟩,fun k ⟨hk,ha⟩=>?_⟩
   refine ⟨fun c1=>?_,fun c1=>?_⟩
   ·replace c1:=yq c1
    refine ⟨by omega,rfl,by omega,fun e29 h29=>?_⟩
    refine ⟨List.length_map _,⟨0,([]:List Int),rfl,rfl,Nat.zero_le _,rfl⟩,fun i cl ⟨hi,hcl⟩=>?_⟩
    refine ⟨fun c2=>?_,fun c2=>?_⟩
    ·replace c2:=yq c2
     refine ⟨by omega,rfl,by omega,fun e37 h37=>?_⟩
     have hrl:=(b4 e37 (by simp [List.mem_of_getElem? h37])).1
     refine ⟨by omega,rfl,by omega,fun e42 h42=>?_⟩
     refine ⟨rfl,rfl,fun _=>rfl,by first | omega | (rw [hcl];simp [uC];omega),?_⟩
     refine ⟨⟨by omega,by omega⟩,?_⟩
     exact ⟨i+1,_,rfl,rfl,⟨by omega,by rw [hcl,aJA h37 h42]⟩,by omega⟩
    ·replace c2:=nq c2
     have hcol:cl=uC p.rows k:=by rw [hcl,List.take_of_length_le (by omega)]
     have hP:iF (uC p.rows k) ys=iF cl ys:=by rw [←hcol]
     refine ⟨aJB cl ys,fun g55=>?_,fun g55=>?_⟩
     ·replace g55:=nt g55
      have hD:gR p ys k=false:=by first | (rw [gR,hP,g55];rfl) | (rw [gR,hP,g55,qZ h29,decide_eq_false (by omega)];rfl)
      have hX:eQ p ys=false:=by rw [eQ,sY (p:=gR p ys) (n:=p.objective.length) (k:=k) (by omega) hD,Bool.and_false,Bool.and_false]
      refine ⟨?_,trivial⟩
      ·first | (rw [hbad];done) | (rw [hX];done) | (rw [eQ,hp,hN,show p.objective.length=k by omega,ha];rfl)
     ·replace g55:=nf g55
      refine ⟨aJn e29,aL5 ((iF cl ys).1) (bF e29),fun c3=>?_,fun c3=>?_⟩
      ·replace c3:=yq c3
       have hD:gR p ys k=false:=by first | (rw [gR,hP,g55];rfl) | (rw [gR,hP,g55,qZ h29,decide_eq_false (by omega)];rfl)
       have hX:eQ p ys=false:=by rw [eQ,sY (p:=gR p ys) (n:=p.objective.length) (k:=k) (by omega) hD,Bool.and_false,Bool.and_false]
       refine ⟨?_,trivial⟩
       ·first | (rw [hbad];done) | (rw [hX];done) | (rw [eQ,hp,hN,show p.objective.length=k by omega,ha];rfl)
      ·replace c3:=nq c3
       have hG:gR p ys k=true:=by rw [gR,hP,g55,qZ h29,decide_eq_true (by omega)];rfl
       refine ⟨⟨by omega,by omega⟩,?_⟩
       exact ⟨k+1,rfl,⟨by omega,aET ha hG⟩,by omega⟩
   ·replace c1:=nq c1
    refine ⟨?_,trivial⟩
    ·first | (rw [hbad];done) | (rw [hX];done) | (rw [eQ,hp,hN,show p.objective.length=k by omega,ha];rfl)
abbrev aEZ (p:cM) (ys:List RationalD):Prop:=cT Tryz.prog 54 [.agg [.sl 3 1 (p.objective.map intD),.sl 39 1 (p.rows.map aA),.sl 3 1 (p.limits.map intD)],.one (.sl 70 2 (ys.map aU))] (vB (eQ p ys)) []
theorem aPI (p:cM) (ys:List RationalD):aEZ p ys:=by
 refine aT bE aL Tryz.func54 (by kernel_rfl) (.call (vB (dD p)) []<| .br (.fin []) (.len ys.length<| .len p.rows.length<| .lit<| .lit<| .br (.fin []) (.call (vB (ys.all tG)) []<| .lit<| .lit<| .br (.fin []) (.loop Nat (Q1 Nat) [5,6,7,8,9,26,27,28,29,30,31,32,33,34,35,36,37,38,39,40,41,42,43,44,45,46,47,48,49,50,51,52,53,54,55,56,57,58,59,60,61,62,63,64,65,66,67,68,69,70] [800,3300,5000,5100] (fun k=>[(5,vI (k:Int))]) (fun k=>[]) (fun k=>k≤p.objective.length∧(List.range k).all (gR p ys)=true) (fun k=>p.objective.length - k) (fun k=> .len p.objective.length<| .br (.loop (Nat × (List Int)) (Q2 Nat (List Int)) [6,7,33,34,35,36,37,38,39,40,41,42,43,44,45,46,47,48,49,50,51] [3300,5000,5100] (fun yy1=>[(7,vI (yy1.1:Int)),(6,.own 3300)]) (fun yy1=>[(3300,some (.arr 3 1 true (yy1.2.map intD)))]) (fun yy1=>yy1.1≤p.rows.length∧yy1.2=uC (p.rows.take yy1.1) k) (fun yy1=>p.rows.length - yy1.1) (fun yy1=> .len p.rows.length<| .br (.elem _ aA p.rows (fun e45=> .elem _ intD e45 (fun e48=> .app Int intD yy1.2 ([e48]:List Int)<| .back [(3300,5100)]))) (bV (vS yy1.2 ys)<| .br (.fin []) (.elem _ intD p.objective (fun e65=> .call (.agg [vI ((bF e65).num),vI ((bF e65).den)]) []<| .call (vI (dM ((iH yy1.2 ys (bF 0)).1) (bF e65))) []<| .lit<| .lit<| .br (.fin []) (.back [])))))) (.fin [])))))) (p:=(p.objective.map intD).length≤9223372036854775807→(p.rows.map aA).length≤9223372036854775807→(p.limits.map intD).length≤9223372036854775807→(ys.map aU).length≤9223372036854775807→sX p∧(((!(dD p))=true→(false)=(eQ p ys)∧True)∧((!(dD p))=false→Lm aU ys∧(Lm aA p.rows∧(((!(decide (((ys.length:Nat):Int)=((p.rows.length:Nat):Int))))=true→(false)=(eQ p ys)∧True)∧((!(decide (((ys.length:Nat):Int)=((p.rows.length:Nat):Int))))=false→aHI ys∧(((!(ys.all tG))=true→(false)=(eQ p ys)∧True)∧((!(ys.all tG))=false→(∃(k:Nat),(0:Int)=(k:Int)∧k≤p.objective.length∧(List.range k).all (gR p ys)=true)∧ ∀(k:Nat),(k≤p.objective.length∧(List.range k).all (gR p ys)=true)→Lm intD p.objective∧(((decide ((k:Int)<((p.objective.length:Nat):Int)))=true→(∃(i:Nat) (cl:List Int),(0:Int)=(i:Int)∧[]=cl.map intD∧i≤p.rows.length∧cl=uC (p.rows.take i) k)∧ ∀(i:Nat) (cl:List Int),(i≤p.rows.length∧cl=uC (p.rows.take i) k)→Lm aA p.rows∧(((decide ((i:Int)<((p.rows.length:Nat):Int)))=true→0≤(i:Int)∧Em aA p.rows i fun e45=>0≤(k:Int)∧Em intD e45 k fun e48=>cl.map intD=cl.map intD∧[[.int .i64 e48]]=([e48]:List Int).map intD∧(∀x,eL (intD x)=true)∧(cl.length+([e48]:List Int).length)*8≤140737488355328∧cC ((i:Int)+(1:Int))∧ ∃(i' :Nat) (cl' :List Int),((i:Int)+(1:Int))=(i' :Int)∧(cl++[e48]).map intD=cl'.map intD∧(i' ≤p.rows.length∧cl' =uC (p.rows.take i') k)∧p.rows.length - i' <p.rows.length - i)∧((decide ((i:Int)<((p.rows.length:Nat):Int)))=false→aB4 cl ys∧(((!((iH cl ys (bF 0)).2))=true→(false)=(eQ p ys)∧True)∧((!((iH cl ys (bF 0)).2))=false→0≤(k:Int)∧Em intD p.objective k fun e65=>aAZ e65∧(aB1 ((iH cl ys (bF 0)).1) (bF e65)∧(((decide ((dM ((iH cl ys (bF 0)).1) (bF e65))<(0:Int)))=true→(false)=(eQ p ys)∧True)∧((decide ((dM ((iH cl ys (bF 0)).1) (bF e65))<(0:Int)))=false→cC ((k:Int)+(1:Int))∧ ∃(k' :Nat),((k:Int)+(1:Int))=(k' :Int)∧(k' ≤p.objective.length∧(List.range k').all (gR p ys)=true)∧p.objective.length - k' <p.objective.length - k))))))))∧((decide ((k:Int)<((p.objective.length:Nat):Int)))=false→(true)=(eQ p ys)∧True)))))))))) (by kernel_rfl) ?_
 intro n0 n1 n2 n3
 simp only [List.length_map] at n0 n1 n2 n3
 refine ⟨aDY p,fun g13=>?_,fun g13=>?_⟩
 ·replace g13:=nt g13
  have hbad:eQ p ys=false:=by first | (rw [eQ,g13];rfl) | (rw [eQ,g13,kR,decide_eq_false (by omega)];rfl) | (rw [eQ,g13,kR,c0];simp)
  refine ⟨?_,trivial⟩
  ·first | (rw [hbad];done) | (rw [hX];done) | (rw [eQ,hp,hN,show p.objective.length=k by omega,ha];rfl)
 ·replace g13:=nf g13
  refine ⟨List.length_map _,List.length_map _,fun g21=>?_,fun g21=>?_⟩
  ·replace g21:=nq (nt g21)
   have hbad:eQ p ys=false:=by first | (rw [eQ,g13];rfl) | (rw [eQ,g13,kR,decide_eq_false (by omega)];rfl) | (rw [eQ,g13,kR,c0];simp)
   refine ⟨?_,trivial⟩
   ·first | (rw [hbad];done) | (rw [hX];done) | (rw [eQ,hp,hN,show p.objective.length=k by omega,ha];rfl)
  ·replace g21:=yq (nf g21)
   refine ⟨aRg ys,fun c0=>?_,fun c0=>?_⟩
   ·replace c0:=nt c0
    have hbad:eQ p ys=false:=by first | (rw [eQ,g13];rfl) | (rw [eQ,g13,kR,decide_eq_false (by omega)];rfl) | (rw [eQ,g13,kR,c0];simp)
    refine ⟨?_,trivial⟩
    ·first | (rw [hbad];done) | (rw [hX];done) | (rw [eQ,hp,hN,show p.objective.length=k by omega,ha];rfl)
   ·replace c0:=nf c0
    have hp:dD p=true:=g13
    have hN:kR ys p.rows.length=true:=by rw [kR,decide_eq_true (by omega),c0];rfl
    obtain ⟨b1,b2,b3,b4,b5⟩:=aBU hp
    have hyl:ys.length=p.rows.length:=by have z:=hN;rw [kR,Bool.and_eq_true,decide_eq_true_eq] at z;omega
    refine ⟨⟨0,rfl,Nat.zero_le _,rfl⟩,fun k ⟨hk,ha⟩=>?_⟩
    refine ⟨List.length_map _,fun c1=>?_,fun c1=>?_⟩
    ·replace c1:=yq c1
     refine ⟨⟨0,([]:List Int),rfl,rfl,Nat.zero_le _,rfl⟩,fun i cl ⟨hi,hcl⟩=>?_⟩
     refine ⟨List.length_map _,fun c2=>?_,fun c2=>?_⟩
     ·replace c2:=yq c2
      refine ⟨by omega,rfl,by omega,fun e45 h45=>?_⟩
      have hrl:=(b4 e45 (by simp [List.mem_of_getElem? h45])).1
      refine ⟨by omega,rfl,by omega,fun e48 h48=>?_⟩
      refine ⟨rfl,rfl,fun _=>rfl,by first | omega | (rw [hcl];simp [uC];omega),?_⟩
      refine ⟨⟨by omega,by omega⟩,?_⟩
      exact ⟨i+1,_,rfl,rfl,⟨by omega,by rw [hcl,aJA h45 h48]⟩,by omega⟩
     ·replace c2:=nq c2
      have hcol:cl=uC p.rows k:=by rw [hcl,List.take_of_length_le (by omega)]
      have hP:iF (uC p.rows k) ys=iH cl ys (bF 0):=by rw [←hcol];exact bZ (by rw [hcol];simp [uC];omega)
      refine ⟨aL9 cl ys,fun g60=>?_,fun g60=>?_⟩
      ·replace g60:=nt g60
       have hD:gR p ys k=false:=by first | (rw [gR,hP,g60];rfl) | (rw [gR,hP,g60,qZ h65,decide_eq_false (by omega)];rfl)
       have hX:eQ p ys=false:=by rw [eQ,sY (p:=gR p ys) (n:=p.objective.length) (k:=k) (by omega) hD,Bool.and_false,Bool.and_false]
       refine ⟨?_,trivial⟩
       ·first | (rw [hbad];done) | (rw [hX];done) | (rw [eQ,hp,hN,show p.objective.length=k by omega,ha];rfl)
      ·replace g60:=nf g60
       refine ⟨by omega,rfl,by omega,fun e65 h65=>?_⟩
       refine ⟨aJo e65,aL6 ((iH cl ys (bF 0)).1) (bF e65),fun c3=>?_,fun c3=>?_⟩
       ·replace c3:=yq c3
        have hD:gR p ys k=false:=by first | (rw [gR,hP,g60];rfl) | (rw [gR,hP,g60,qZ h65,decide_eq_false (by omega)];rfl)
        have hX:eQ p ys=false:=by rw [eQ,sY (p:=gR p ys) (n:=p.objective.length) (k:=k) (by omega) hD,Bool.and_false,Bool.and_false]
        refine ⟨?_,trivial⟩
        ·first | (rw [hbad];done) | (rw [hX];done) | (rw [eQ,hp,hN,show p.objective.length=k by omega,ha];rfl)
       ·replace c3:=nq c3
        have hG:gR p ys k=true:=by rw [gR,hP,g60,qZ h65,decide_eq_true (by omega)];rfl
        refine ⟨⟨by omega,by omega⟩,?_⟩
        exact ⟨k+1,rfl,⟨by omega,aET ha hG⟩,by omega⟩
    ·replace c1:=nq c1
     refine ⟨?_,trivial⟩
     ·first | (rw [hbad];done) | (rw [hX];done) | (rw [eQ,hp,hN,show p.objective.length=k by omega,ha];rfl)
abbrev aE0 (s:StoreD) (q:QueryD) (m:Int) (b:RationalD) (ws:List RationalD):Prop:=cT Tryz.prog 24 [.agg [.sl 167 3 (s.database.tables.map aR),.int .i64 s.catalogue.version,.sl 161 4 (s.catalogue.tables.map aE),.sl 131 3 (s.dependencies.map aM),.sl 133 4 (s.inclusions.map aQ)],.agg [.int .i64 q.variableCount,.sl 135 2 (q.atoms.map bH)],.one (.int .i64 m),.agg [.int .i64 b.num,.int .i64 b.den],.one (.sl 70 2 (ws.map aU))] (vB (gZ s q m b ws)) []
theorem aPJ (s:StoreD) (q:QueryD) (m:Int) (b:RationalD) (ws:List RationalD) (hc:eG s≤1048576) (hcq:iJ q≤1048576):aE0 s q m b ws:=by
 refine aT bE aL Tryz.func24 (by kernel_rfl) (bV (zC s q m)<| .br (.fin []) (.call (vB (bI b)) []<| .lit<| .lit<| .br (.fin []) (.call (vB (eQ ((fO s q m).1) ws)) []<| .lit<| .lit<| .br (.fin []) (bV (aB5 ((fO s q m).1) ws)<| .br (.call (vI (dM ((lA ((fO s q m).1) ws).1) b)) []<| .fin []) (.fin []))))) (p:=(s.database.tables.map aR).length≤9223372036854775807→(s.catalogue.tables.map aE).length≤9223372036854775807→(s.dependencies.map aM).length≤9223372036854775807→(s.inclusions.map aQ).length≤9223372036854775807→(q.atoms.map bH).length≤9223372036854775807→(ws.map aU).length≤9223372036854775807→aEW s q m∧(((!((fO s q m).2))=true→(false)=(gZ s q m b ws)∧True)∧((!((fO s q m).2))=false→iC b∧(((!(bI b))=true→(false)=(gZ s q m b ws)∧True)∧((!(bI b))=false→aEY ((fO s q m).1) ws∧(((!(eQ ((fO s q m).1) ws))=true→(false)=(gZ s q m b ws)∧True)∧((!(eQ ((fO s q m).1) ws))=false→aHF ((fO s q m).1) ws∧((((lA ((fO s q m).1) ws).2)=true→aB0 ((lA ((fO s q m).1) ws).1) b∧(decide ((dM ((lA ((fO s q m).1) ws).1) b)≤(0:Int)))=(gZ s q m b ws)∧True)∧(((lA ((fO s q m).1) ws).2)=false→(false)=(gZ s q m b ws)∧True))))))))) (by kernel_rfl) ?_
 intro n0 n1 n2 n3 n4 n5
 simp only [List.length_map] at n0 n1 n2 n3 n4 n5
 have hS:eG s=bN s.database+bT s.catalogue+cH s.dependencies+dL s.inclusions:=rfl
 have hI:=fP s.inclusions
 have hQ:iJ q=kY q.atoms:=rfl
 have hrs0:=aSw s q m
 refine ⟨aPF s q m (by omega) (by omega),fun g26=>?_,fun g26=>?_⟩
 ·replace g26:=nt g26
  refine ⟨?_,trivial⟩
  ·first | (simp only [gZ,g26,g31,c0,g44,Bool.true_and,Bool.and_true,Bool.false_and,Bool.and_false];done) | (simp only [gZ,g26,g31,c0,Bool.true_and,Bool.and_true,Bool.false_and,Bool.and_false];done) | (simp only [gZ,g26,g31,Bool.true_and,Bool.and_true,Bool.false_and,Bool.and_false];done) | (simp only [gZ,g26,Bool.true_and,Bool.and_true,Bool.false_and,Bool.and_false];done)
 ·replace g26:=nf g26
  refine ⟨lJ b,fun g31=>?_,fun g31=>?_⟩
  ·replace g31:=nt g31
   refine ⟨?_,trivial⟩
   ·first | (simp only [gZ,g26,g31,c0,g44,Bool.true_and,Bool.and_true,Bool.false_and,Bool.and_false];done) | (simp only [gZ,g26,g31,c0,Bool.true_and,Bool.and_true,Bool.false_and,Bool.and_false];done) | (simp only [gZ,g26,g31,Bool.true_and,Bool.and_true,Bool.false_and,Bool.and_false];done) | (simp only [gZ,g26,Bool.true_and,Bool.and_true,Bool.false_and,Bool.and_false];done)
  ·replace g31:=nf g31
   refine ⟨aPH ((fO s q m).1) ws (by assumption),fun c0=>?_,fun c0=>?_⟩
   ·replace c0:=nt c0
    refine ⟨?_,trivial⟩
    ·first | (simp only [gZ,g26,g31,c0,g44,Bool.true_and,Bool.and_true,Bool.false_and,Bool.and_false];done) | (simp only [gZ,g26,g31,c0,Bool.true_and,Bool.and_true,Bool.false_and,Bool.and_false];done) | (simp only [gZ,g26,g31,Bool.true_and,Bool.and_true,Bool.false_and,Bool.and_false];done) | (simp only [gZ,g26,Bool.true_and,Bool.and_true,Bool.false_and,Bool.and_false];done)
   ·replace c0:=nf c0
    refine ⟨aRd ((fO s q m).1) ws (by assumption),fun g44=>?_,fun g44=>?_⟩
    ·refine ⟨aL5 ((lA ((fO s q m).1) ws).1) b,?_,trivial⟩
     ·first | (simp only [gZ,g26,g31,c0,g44,Bool.true_and,Bool.and_true,Bool.false_and,Bool.and_false];done) | (simp only [gZ,g26,g31,c0,Bool.true_and,Bool.and_true,Bool.false_and,Bool.and_false];done) | (simp only [gZ,g26,g31,Bool.true_and,Bool.and_true,Bool.false_and,Bool.and_false];done) | (simp only [gZ,g26,Bool.true_and,Bool.and_true,Bool.false_and,Bool.and_false];done)
    ·refine ⟨?_,trivial⟩
     ·first | (simp only [gZ,g26,g31,c0,g44,Bool.true_and,Bool.and_true,Bool.false_and,Bool.and_false];done) | (simp only [gZ,g26,g31,c0,Bool.true_and,Bool.and_true,Bool.false_and,Bool.and_false];done) | (simp only [gZ,g26,g31,Bool.true_and,Bool.and_true,Bool.false_and,Bool.and_false];done) | (simp only [gZ,g26,Bool.true_and,Bool.and_true,Bool.false_and,Bool.and_false];done)
abbrev aE1 (s:StoreD) (q:QueryD) (m:Int) (b:RationalD) (ws:List RationalD):Prop:=cT Tryz.prog 22 [.agg [.sl 167 3 (s.database.tables.map aR),.int .i64 s.catalogue.version,.sl 161 4 (s.catalogue.tables.map aE),.sl 131 3 (s.dependencies.map aM),.sl 133 4 (s.inclusions.map aQ)],.agg [.int .i64 q.variableCount,.sl 135 2 (q.atoms.map bH)],.one (.int .i64 m),.agg [.int .i64 b.num,.int .i64 b.den],.one (.sl 70 2 (ws.map aU))] (vB (gZ s q m b ws)) []
theorem aPK (s:StoreD) (q:QueryD) (m:Int) (b:RationalD) (ws:List RationalD) (hc:eG s≤1048576) (hcq:iJ q≤1048576):aE1 s q m b ws:=by
 refine aT bE aL Tryz.func22 (by kernel_rfl) (bV (zD s q m)<| bV (aB6 ((fO s q m).1) ws)<| .br (.lit<| .br (.call (vB (bI b)) []<| .lit<| .br (.call (vB (eQ ((fO s q m).1) ws)) []<| .lit<| .br (.call (vI (dM ((lA ((fO s q m).1) ws).1) b)) []<| .fin []) (.fin [])) (.fin [])) (.fin [])) (.fin [])) (p:=(s.database.tables.map aR).length≤9223372036854775807→(s.catalogue.tables.map aE).length≤9223372036854775807→(s.dependencies.map aM).length≤9223372036854775807→(s.inclusions.map aQ).length≤9223372036854775807→(q.atoms.map bH).length≤9223372036854775807→(ws.map aU).length≤9223372036854775807→aEX s q m∧(aHG ((fO s q m).1) ws∧((((fO s q m).2)=true→(((lA ((fO s q m).1) ws).2)=true→jP b∧(((bI b)=true→aEZ ((fO s q m).1) ws∧(((eQ ((fO s q m).1) ws)=true→aB1 ((lA ((fO s q m).1) ws).1) b∧(decide ((dM ((lA ((fO s q m).1) ws).1) b)≤(0:Int)))=(gZ s q m b ws)∧True)∧((eQ ((fO s q m).1) ws)=false→(false)=(gZ s q m b ws)∧True)))∧((bI b)=false→(false)=(gZ s q m b ws)∧True)))∧(((lA ((fO s q m).1) ws).2)=false→(false)=(gZ s q m b ws)∧True))∧(((fO s q m).2)=false→(false)=(gZ s q m b ws)∧True)))) (by kernel_rfl) ?_
 intro n0 n1 n2 n3 n4 n5
 simp only [List.length_map] at n0 n1 n2 n3 n4 n5
 have hS:eG s=bN s.database+bT s.catalogue+cH s.dependencies+dL s.inclusions:=rfl
 have hI:=fP s.inclusions
 have hQ:iJ q=kY q.atoms:=rfl
 refine ⟨aPG s q m (by omega) (by omega),aRe ((fO s q m).1) ws,fun g29=>?_,fun g29=>?_⟩
 ·refine ⟨fun g32=>?_,fun g32=>?_⟩
  ·refine ⟨mP b,fun g36=>?_,fun g36=>?_⟩
   ·refine ⟨aPI ((fO s q m).1) ws,fun g41=>?_,fun g41=>?_⟩
    ·refine ⟨aL6 ((lA ((fO s q m).1) ws).1) b,?_,trivial⟩
     ·first | (simp only [gZ,g29,g32,g36,g41,Bool.true_and,Bool.and_true,Bool.false_and,Bool.and_false];done) | (simp only [gZ,g29,g32,g36,Bool.true_and,Bool.and_true,Bool.false_and,Bool.and_false];done) | (simp only [gZ,g29,g32,Bool.true_and,Bool.and_true,Bool.false_and,Bool.and_false];done) | (simp only [gZ,g29,Bool.true_and,Bool.and_true,Bool.false_and,Bool.and_false];done)
    ·refine ⟨?_,trivial⟩
     ·first | (simp only [gZ,g29,g32,g36,g41,Bool.true_and,Bool.and_true,Bool.false_and,Bool.and_false];done) | (simp only [gZ,g29,g32,g36,Bool.true_and,Bool.and_true,Bool.false_and,Bool.and_false];done) | (simp only [gZ,g29,g32,Bool.true_and,Bool.and_true,Bool.false_and,Bool.and_false];done) | (simp only [gZ,g29,Bool.true_and,Bool.and_true,Bool.false_and,Bool.and_false];done)
   ·refine ⟨?_,trivial⟩
    ·first | (simp only [gZ,g29,g32,g36,g41,Bool.true_and,Bool.and_true,Bool.false_and,Bool.and_false];done) | (simp only [gZ,g29,g32,g36,Bool.true_and,Bool.and_true,Bool.false_and,Bool.and_false];done) | (simp only [gZ,g29,g32,Bool.true_and,Bool.and_true,Bool.false_and,Bool.and_false];done) | (simp only [gZ,g29,Bool.true_and,Bool.and_true,Bool.false_and,Bool.and_false];done)
  ·refine ⟨?_,trivial⟩
   ·first | (simp only [gZ,g29,g32,g36,g41,Bool.true_and,Bool.and_true,Bool.false_and,Bool.and_false];done) | (simp only [gZ,g29,g32,g36,Bool.true_and,Bool.and_true,Bool.false_and,Bool.and_false];done) | (simp only [gZ,g29,g32,Bool.true_and,Bool.and_true,Bool.false_and,Bool.and_false];done) | (simp only [gZ,g29,Bool.true_and,Bool.and_true,Bool.false_and,Bool.and_false];done)
 ·refine ⟨?_,trivial⟩
  ·first | (simp only [gZ,g29,g32,g36,g41,Bool.true_and,Bool.and_true,Bool.false_and,Bool.and_false];done) | (simp only [gZ,g29,g32,g36,Bool.true_and,Bool.and_true,Bool.false_and,Bool.and_false];done) | (simp only [gZ,g29,g32,Bool.true_and,Bool.and_true,Bool.false_and,Bool.and_false];done) | (simp only [gZ,g29,Bool.true_and,Bool.and_true,Bool.false_and,Bool.and_false];done)
end Go.Proofs.YtdfebigfnjfgpaaGreat
