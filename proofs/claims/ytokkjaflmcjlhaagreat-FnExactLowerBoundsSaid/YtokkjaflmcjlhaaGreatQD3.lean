/-
  Contracts and plain laws, joined: part 4.
-/
import Derived.Test.YtokkjaflmcjlhaaGreatQD2
import Derived.Laws.Strings
namespace Go.Proofs.YtokkjaflmcjlhaaGreat
open Go.ChangeShapes Go.WideShapes Go.ChangeAt Go.RowKit
set_option linter.unusedVariables false
set_option linter.unusedSimpArgs false
set_option maxRecDepth 100000
set_option maxHeartbeats 4000000
def tb:Tb:=⟨[(2,(false,1,8,.int .i64 0)),(3,(false,1,8,.int .i64 0)),(4,(false,1,1,.bool false)),(5,(false,1,1,.int .u8 0)),(6,(false,1,1,.int .u8 0)),(7,(true,4,24,.agg #[.int .i64 0,.int .i64 0,.bool false,.int .u8 0])),(8,(true,4,24,.agg #[.int .i64 0,.int .i64 0,.bool false,.int .u8 0])),(9,(false,1,16,.string ByteArray.empty)),(10,(false,1,16,.string ByteArray.empty)),(11,(false,1,16,.string ByteArray.empty)),(12,(false,1,8,.int .u64 0)),(13,(true,2,24,.agg #[.string ByteArray.empty,.int .u64 0])),(14,(true,2,24,.agg #[.string ByteArray.empty,.int .u64 0])),(21,(false,1,4,.int .i32 0)),(22,(false,1,24,.slice none 0 0)),(23,(true,1,24,.agg #[.slice none 0 0])),(24,(true,1,24,.agg #[.slice none 0 0])),(25,(false,1,24,.slice none 0 0)),(26,(true,2,32,.agg #[.int .i64 0,.slice none 0 0])),(27,(true,2,32,.agg #[.int .i64 0,.slice none 0 0])),(28,(false,1,24,.slice none 0 0)),(29,(false,1,24,.slice none 0 0)),(30,(true,5,104,.agg #[.slice none 0 0,.int .i64 0,.slice none 0 0,.slice none 0 0,.slice none 0 0])),(31,(true,5,104,.agg #[.slice none 0 0,.int .i64 0,.slice none 0 0,.slice none 0 0,.slice none 0 0])),(32,(false,1,24,.slice none 0 0)),(33,(true,3,48,.agg #[.string ByteArray.empty,.bool false,.slice none 0 0])),(34,(true,3,48,.agg #[.string ByteArray.empty,.bool false,.slice none 0 0])),(37,(false,1,24,.slice none 0 0)),(38,(true,1,24,.agg #[.slice none 0 0])),(39,(true,1,24,.agg #[.slice none 0 0])),(40,(false,1,24,.slice none 0 0)),(41,(true,2,32,.agg #[.int .i64 0,.slice none 0 0])),(42,(true,2,32,.agg #[.int .i64 0,.slice none 0 0])),(43,(false,1,24,.slice none 0 0)),(44,(false,1,24,.slice none 0 0)),(45,(true,5,104,.agg #[.slice none 0 0,.int .i64 0,.slice none 0 0,.slice none 0 0,.slice none 0 0])),(46,(true,5,104,.agg #[.slice none 0 0,.int .i64 0,.slice none 0 0,.slice none 0 0,.slice none 0 0])),(50,(true,3,48,.agg #[.string ByteArray.empty,.bool false,.slice none 0 0])),(57,(false,1,24,.slice none 0 0)),(61,(false,1,24,.slice none 0 0)),(66,(false,1,24,.slice none 0 0)),(67,(true,2,32,.agg #[.int .i64 0,.slice none 0 0])),(68,(true,2,32,.agg #[.int .i64 0,.slice none 0 0])),(71,(false,1,24,.slice none 0 0)),(72,(true,2,32,.agg #[.int .i64 0,.slice none 0 0])),(73,(true,2,32,.agg #[.int .i64 0,.slice none 0 0])),(88,(false,1,24,.slice none 0 0)),(119,(false,1,24,.slice none 0 0)),(120,(true,4,56,.agg #[.string ByteArray.empty,.int .i64 0,.int .i64 0,.slice none 0 0])),(121,(true,4,56,.agg #[.string ByteArray.empty,.int .i64 0,.int .i64 0,.slice none 0 0])),(130,(true,2,40,.agg #[.string ByteArray.empty,.slice none 0 0])),(131,(true,2,40,.agg #[.string ByteArray.empty,.slice none 0 0])),(148,(true,3,24,.agg #[.int .i64 0,.int .i64 0,.int .i64 0])),(149,(true,3,24,.agg #[.int .i64 0,.int .i64 0,.int .i64 0])),(153,(true,3,48,.agg #[.string ByteArray.empty,.slice none 0 0,.int .i64 0])),(154,(true,3,48,.agg #[.string ByteArray.empty,.slice none 0 0,.int .i64 0])),(156,(true,4,48,.agg #[.string ByteArray.empty,.int .i64 0,.string ByteArray.empty,.int .i64 0])),(157,(true,4,48,.agg #[.string ByteArray.empty,.int .i64 0,.string ByteArray.empty,.int .i64 0])),(160,(false,1,24,.slice none 0 0)),(161,(true,3,48,.agg #[.string ByteArray.empty,.int .i64 0,.slice none 0 0])),(162,(true,3,48,.agg #[.string ByteArray.empty,.int .i64 0,.slice none 0 0])),(168,(true,3,48,.agg #[.string ByteArray.empty,.slice none 0 0,.int .i64 0])),(170,(true,4,48,.agg #[.string ByteArray.empty,.int .i64 0,.string ByteArray.empty,.int .i64 0])),(183,(false,1,24,.slice none 0 0)),(185,(true,2,40,.agg #[.string ByteArray.empty,.slice none 0 0])),(202,(true,3,48,.agg #[.string ByteArray.empty,.int .i64 0,.slice none 0 0])),(204,(false,1,24,.slice none 0 0)),(205,(true,4,56,.agg #[.string ByteArray.empty,.int .i64 0,.int .i64 0,.slice none 0 0])),(206,(true,4,56,.agg #[.string ByteArray.empty,.int .i64 0,.int .i64 0,.slice none 0 0])),(217,(true,3,72,.agg #[.slice none 0 0,.slice none 0 0,.slice none 0 0])),(218,(true,3,72,.agg #[.slice none 0 0,.slice none 0 0,.slice none 0 0])),(232,(false,1,24,.slice none 0 0)),(247,(false,1,8,.int .u64 0)),(251,(true,3,72,.agg #[.slice none 0 0,.slice none 0 0,.slice none 0 0])),(255,(false,1,8,.int .i64 0)),(264,(false,1,4,.int .u32 0)),(266,(false,1,8,.int .u64 0)),(274,(false,1,8,.int .u64 0)),(291,(true,0,0,.agg #[])),(292,(true,0,0,.agg #[])),(294,(false,1,1,.int .u8 0)),(295,(false,1,1,.int .u8 0)),(298,(false,1,4,.int .i32 0)),(299,(false,1,4,.int .i32 0))],
 [(22,202),(25,206),(28,154),(29,157),(32,3),(37,162),(40,121),(43,168),(44,170),(57,34),(61,50),(66,185),(71,131),(88,149),(119,218),(160,32),(183,5),(204,251),(232,4)],
 [(7,[(0,(0,2)),(1,(1,3)),(2,(2,4)),(3,(3,6))]),(8,[(0,(0,2)),(1,(1,3)),(2,(2,4)),(3,(3,6))]),(13,[(0,(0,9)),(1,(1,12))]),(14,[(0,(0,9)),(1,(1,12))]),(23,[(0,(0,22))]),(24,[(0,(0,22))]),(26,[(0,(0,3)),(1,(1,25))]),(27,[(0,(0,3)),(1,(1,25))]),(30,[(0,(0,24)),(1,(1,27)),(2,(3,28)),(3,(4,29))]),(31,[(0,(0,24)),(1,(1,27)),(2,(3,28)),(3,(4,29))]),(33,[(0,(0,9)),(1,(1,4)),(2,(2,32))]),(34,[(0,(0,9)),(1,(1,4)),(2,(2,32))]),(38,[(0,(0,37))]),(39,[(0,(0,37))]),(41,[(0,(0,3)),(1,(1,40))]),(42,[(0,(0,3)),(1,(1,40))]),(45,[(0,(0,39)),(1,(1,42)),(2,(3,43)),(3,(4,44))]),(46,[(0,(0,39)),(1,(1,42)),(2,(3,43)),(3,(4,44))]),(50,[(0,(0,9)),(1,(1,4)),(2,(2,32))]),(67,[(0,(0,3)),(1,(1,66))]),(68,[(0,(0,3)),(1,(1,66))]),(72,[(0,(0,3)),(1,(1,71))]),(73,[(0,(0,3)),(1,(1,71))]),(120,[(0,(0,9)),(1,(1,3)),(2,(2,3)),(3,(3,119))]),(121,[(0,(0,9)),(1,(1,3)),(2,(2,3)),(3,(3,119))]),(130,[(0,(0,9)),(1,(1,32))]),(131,[(0,(0,9)),(1,(1,32))]),(148,[(0,(0,3)),(1,(1,3)),(2,(2,3))]),(149,[(0,(0,3)),(1,(1,3)),(2,(2,3))]),(153,[(0,(0,9)),(1,(1,32)),(2,(2,3))]),(154,[(0,(0,9)),(1,(1,32)),(2,(2,3))]),(156,[(0,(0,9)),(1,(1,3)),(2,(2,9)),(3,(3,3))]),(157,[(0,(0,9)),(1,(1,3)),(2,(2,9)),(3,(3,3))]),(161,[(0,(0,9)),(1,(1,3)),(2,(2,160))]),(162,[(0,(0,9)),(1,(1,3)),(2,(2,160))]),(168,[(0,(0,9)),(1,(1,32)),(2,(2,3))]),(170,[(0,(0,9)),(1,(1,3)),(2,(2,9)),(3,(3,3))]),(185,[(0,(0,9)),(1,(1,32))]),(202,[(0,(0,9)),(1,(1,3)),(2,(2,160))]),(205,[(0,(0,9)),(1,(1,3)),(2,(2,3)),(3,(3,204))]),(206,[(0,(0,9)),(1,(1,3)),(2,(2,3)),(3,(3,204))]),(217,[(0,(0,32)),(1,(1,160)),(2,(2,32))]),(218,[(0,(0,32)),(1,(1,160)),(2,(2,32))]),(251,[(0,(0,32)),(1,(1,160)),(2,(2,32))]),(291,[]),(292,[])],
 [(7,(.agg #[.int .i64 0,.int .i64 0,.bool false,.int .u8 0],[(0,1),(1,1),(2,1),(3,1)])),(8,(.agg #[.int .i64 0,.int .i64 0,.bool false,.int .u8 0],[(0,1),(1,1),(2,1),(3,1)])),(13,(.agg #[.string ByteArray.empty,.int .u64 0],[(0,1),(1,1)])),(14,(.agg #[.string ByteArray.empty,.int .u64 0],[(0,1),(1,1)])),(23,(.agg #[.slice none 0 0],[(0,1)])),(24,(.agg #[.slice none 0 0],[(0,1)])),(26,(.agg #[.int .i64 0,.slice none 0 0],[(0,1),(1,1)])),(27,(.agg #[.int .i64 0,.slice none 0 0],[(0,1),(1,1)])),(30,(.agg #[.slice none 0 0,.int .i64 0,.slice none 0 0,.slice none 0 0,.slice none 0 0],[(0,1),(1,2),(3,1),(4,1)])),(31,(.agg #[.slice none 0 0,.int .i64 0,.slice none 0 0,.slice none 0 0,.slice none 0 0],[(0,1),(1,2),(3,1),(4,1)])),(33,(.agg #[.string ByteArray.empty,.bool false,.slice none 0 0],[(0,1),(1,1),(2,1)])),(34,(.agg #[.string ByteArray.empty,.bool false,.slice none 0 0],[(0,1),(1,1),(2,1)])),(38,(.agg #[.slice none 0 0],[(0,1)])),(39,(.agg #[.slice none 0 0],[(0,1)])),(41,(.agg #[.int .i64 0,.slice none 0 0],[(0,1),(1,1)])),(42,(.agg #[.int .i64 0,.slice none 0 0],[(0,1),(1,1)])),(45,(.agg #[.slice none 0 0,.int .i64 0,.slice none 0 0,.slice none 0 0,.slice none 0 0],[(0,1),(1,2),(3,1),(4,1)])),(46,(.agg #[.slice none 0 0,.int .i64 0,.slice none 0 0,.slice none 0 0,.slice none 0 0],[(0,1),(1,2),(3,1),(4,1)])),(50,(.agg #[.string ByteArray.empty,.bool false,.slice none 0 0],[(0,1),(1,1),(2,1)])),(67,(.agg #[.int .i64 0,.slice none 0 0],[(0,1),(1,1)])),(68,(.agg #[.int .i64 0,.slice none 0 0],[(0,1),(1,1)])),(72,(.agg #[.int .i64 0,.slice none 0 0],[(0,1),(1,1)])),(73,(.agg #[.int .i64 0,.slice none 0 0],[(0,1),(1,1)])),(120,(.agg #[.string ByteArray.empty,.int .i64 0,.int .i64 0,.slice none 0 0],[(0,1),(1,1),(2,1),(3,1)])),(121,(.agg #[.string ByteArray.empty,.int .i64 0,.int .i64 0,.slice none 0 0],[(0,1),(1,1),(2,1),(3,1)])),(130,(.agg #[.string ByteArray.empty,.slice none 0 0],[(0,1),(1,1)])),(131,(.agg #[.string ByteArray.empty,.slice none 0 0],[(0,1),(1,1)])),(148,(.agg #[.int .i64 0,.int .i64 0,.int .i64 0],[(0,1),(1,1),(2,1)])),(149,(.agg #[.int .i64 0,.int .i64 0,.int .i64 0],[(0,1),(1,1),(2,1)])),(153,(.agg #[.string ByteArray.empty,.slice none 0 0,.int .i64 0],[(0,1),(1,1),(2,1)])),(154,(.agg #[.string ByteArray.empty,.slice none 0 0,.int .i64 0],[(0,1),(1,1),(2,1)])),(156,(.agg #[.string ByteArray.empty,.int .i64 0,.string ByteArray.empty,.int .i64 0],[(0,1),(1,1),(2,1),(3,1)])),(157,(.agg #[.string ByteArray.empty,.int .i64 0,.string ByteArray.empty,.int .i64 0],[(0,1),(1,1),(2,1),(3,1)])),(161,(.agg #[.string ByteArray.empty,.int .i64 0,.slice none 0 0],[(0,1),(1,1),(2,1)])),(162,(.agg #[.string ByteArray.empty,.int .i64 0,.slice none 0 0],[(0,1),(1,1),(2,1)])),(168,(.agg #[.string ByteArray.empty,.slice none 0 0,.int .i64 0],[(0,1),(1,1),(2,1)])),(170,(.agg #[.string ByteArray.empty,.int .i64 0,.string ByteArray.empty,.int .i64 0],[(0,1),(1,1),(2,1),(3,1)])),(185,(.agg #[.string ByteArray.empty,.slice none 0 0],[(0,1),(1,1)])),(202,(.agg #[.string ByteArray.empty,.int .i64 0,.slice none 0 0],[(0,1),(1,1),(2,1)])),(205,(.agg #[.string ByteArray.empty,.int .i64 0,.int .i64 0,.slice none 0 0],[(0,1),(1,1),(2,1),(3,1)])),(206,(.agg #[.string ByteArray.empty,.int .i64 0,.int .i64 0,.slice none 0 0],[(0,1),(1,1),(2,1),(3,1)])),(217,(.agg #[.slice none 0 0,.slice none 0 0,.slice none 0 0],[(0,1),(1,1),(2,1)])),(218,(.agg #[.slice none 0 0,.slice none 0 0,.slice none 0 0],[(0,1),(1,1),(2,1)])),(251,(.agg #[.slice none 0 0,.slice none 0 0,.slice none 0 0],[(0,1),(1,1),(2,1)])),(291,(.agg #[],[(0,0)])),(292,(.agg #[],[(0,0)]))],
 [(4,())],
 [(9,()),(10,()),(11,())],
 [(2,.i64),(3,.i64),(5,.u8),(6,.u8),(12,.u64),(21,.i32),(247,.u64),(255,.i64),(264,.u32),(266,.u64),(274,.u64),(294,.u8),(295,.u8),(298,.i32),(299,.i32)],
 [(149,[0,0,0]),(170,[2,0,2,0])]⟩
theorem fc {α:Type} {p:Nat→α→Prop} {k:Nat} {v:α} {l:List (Nat × α)} (h:p k v) (t:nW p l):nW p ((k,v)::l):=⟨h,t⟩
theorem aS:Tryz.prog.follows .mixedOrders=true:=by kernel_rfl
set_option maxRecDepth 100000 in
theorem bF:lO Tryz.prog tb:=
 ⟨(fc (by kernel_rfl)<| fc (by kernel_rfl)<| fc (by kernel_rfl)<| fc (by kernel_rfl)<| fc (by kernel_rfl)<| fc (by kernel_rfl)<| fc (by kernel_rfl)<| fc (by kernel_rfl)<| fc (by kernel_rfl)<| fc (by kernel_rfl)<| fc (by kernel_rfl)<| fc (by kernel_rfl)<| fc (by kernel_rfl)<| fc (by kernel_rfl)<| fc (by kernel_rfl)<| fc (by kernel_rfl)<| fc (by kernel_rfl)<| fc (by kernel_rfl)<| fc (by kernel_rfl)<| fc (by kernel_rfl)<| fc (by kernel_rfl)<| fc (by kernel_rfl)<| fc (by kernel_rfl)<| fc (by kernel_rfl)<| fc (by kernel_rfl)<| fc (by kernel_rfl)<| fc (by kernel_rfl)<| fc (by kernel_rfl)<| fc (by kernel_rfl)<| fc (by kernel_rfl)<| fc (by kernel_rfl)<| fc (by kernel_rfl)<| fc (by kernel_rfl)<| fc (by kernel_rfl)<| fc (by kernel_rfl)<| fc (by kernel_rfl)<| fc (by kernel_rfl)<| fc (by kernel_rfl)<| fc (by kernel_rfl)<| fc (by kernel_rfl)<| fc (by kernel_rfl)<| fc (by kernel_rfl)<| fc (by kernel_rfl)<| fc (by kernel_rfl)<| fc (by kernel_rfl)<| fc (by kernel_rfl)<| fc (by kernel_rfl)<| fc (by kernel_rfl)<| fc (by kernel_rfl)<| fc (by kernel_rfl)<| fc (by kernel_rfl)<| fc (by kernel_rfl)<| fc (by kernel_rfl)<| fc (by kernel_rfl)<| fc (by kernel_rfl)<| fc (by kernel_rfl)<| fc (by kernel_rfl)<| fc (by kernel_rfl)<| fc (by kernel_rfl)<| fc (by kernel_rfl)<| fc (by kernel_rfl)<| fc (by kernel_rfl)<| fc (by kernel_rfl)<| fc (by kernel_rfl)<| fc (by kernel_rfl)<| fc (by kernel_rfl)<| fc (by kernel_rfl)<| fc (by kernel_rfl)<| fc (by kernel_rfl)<| fc (by kernel_rfl)<| fc (by kernel_rfl)<| fc (by kernel_rfl)<| fc (by kernel_rfl)<| fc (by kernel_rfl)<| fc (by kernel_rfl)<| fc (by kernel_rfl)<| fc (by kernel_rfl)<| fc (by kernel_rfl)<| fc (by kernel_rfl)<| fc (by kernel_rfl)<| fc (by kernel_rfl)<| fc (by kernel_rfl)<| fc (by kernel_rfl)<| fc (by kernel_rfl)<| trivial),
  (fc (by kernel_rfl)<| fc (by kernel_rfl)<| fc (by kernel_rfl)<| fc (by kernel_rfl)<| fc (by kernel_rfl)<| fc (by kernel_rfl)<| fc (by kernel_rfl)<| fc (by kernel_rfl)<| fc (by kernel_rfl)<| fc (by kernel_rfl)<| fc (by kernel_rfl)<| fc (by kernel_rfl)<| fc (by kernel_rfl)<| fc (by kernel_rfl)<| fc (by kernel_rfl)<| fc (by kernel_rfl)<| fc (by kernel_rfl)<| fc (by kernel_rfl)<| fc (by kernel_rfl)<| trivial),
  (fc (fc (by kernel_rfl)<| fc (by kernel_rfl)<| fc (by kernel_rfl)<| fc (by kernel_rfl)<| trivial)<| fc (fc (by kernel_rfl)<| fc (by kernel_rfl)<| fc (by kernel_rfl)<| fc (by kernel_rfl)<| trivial)<| fc (fc (by kernel_rfl)<| fc (by kernel_rfl)<| trivial)<| fc (fc (by kernel_rfl)<| fc (by kernel_rfl)<| trivial)<| fc (fc (by kernel_rfl)<| trivial)<| fc (fc (by kernel_rfl)<| trivial)<| fc (fc (by kernel_rfl)<| fc (by kernel_rfl)<| trivial)<| fc (fc (by kernel_rfl)<| fc (by kernel_rfl)<| trivial)<| fc (fc (by kernel_rfl)<| fc (by kernel_rfl)<| fc (by kernel_rfl)<| fc (by kernel_rfl)<| trivial)<| fc (fc (by kernel_rfl)<| fc (by kernel_rfl)<| fc (by kernel_rfl)<| fc (by kernel_rfl)<| trivial)<| fc (fc (by kernel_rfl)<| fc (by kernel_rfl)<| fc (by kernel_rfl)<| trivial)<| fc (fc (by kernel_rfl)<| fc (by kernel_rfl)<| fc (by kernel_rfl)<| trivial)<| fc (fc (by kernel_rfl)<| trivial)<| fc (fc (by kernel_rfl)<| trivial)<| fc (fc (by kernel_rfl)<| fc (by kernel_rfl)<| trivial)<| fc (fc (by kernel_rfl)<| fc (by kernel_rfl)<| trivial)<| fc (fc (by kernel_rfl)<| fc (by kernel_rfl)<| fc (by kernel_rfl)<| fc (by kernel_rfl)<| trivial)<| fc (fc (by kernel_rfl)<| fc (by kernel_rfl)<| fc (by kernel_rfl)<| fc (by kernel_rfl)<| trivial)<| fc (fc (by kernel_rfl)<| fc (by kernel_rfl)<| fc (by kernel_rfl)<| trivial)<| fc (fc (by kernel_rfl)<| fc (by kernel_rfl)<| trivial)<| fc (fc (by kernel_rfl)<| fc (by kernel_rfl)<| trivial)<| fc (fc (by kernel_rfl)<| fc (by kernel_rfl)<| trivial)<| fc (fc (by kernel_rfl)<| fc (by kernel_rfl)<| trivial)<| fc (fc (by kernel_rfl)<| fc (by kernel_rfl)<| fc (by kernel_rfl)<| fc (by kernel_rfl)<| trivial)<| fc (fc (by kernel_rfl)<| fc (by kernel_rfl)<| fc (by kernel_rfl)<| fc (by kernel_rfl)<| trivial)<| fc (fc (by kernel_rfl)<| fc (by kernel_rfl)<| trivial)<| fc (fc (by kernel_rfl)<| fc (by kernel_rfl)<| trivial)<| fc (fc (by kernel_rfl)<| fc (by kernel_rfl)<| fc (by kernel_rfl)<| trivial)<| fc (fc (by kernel_rfl)<| fc (by kernel_rfl)<| fc (by kernel_rfl)<| trivial)<| fc (fc (by kernel_rfl)<| fc (by kernel_rfl)<| fc (by kernel_rfl)<| trivial)<| fc (fc (by kernel_rfl)<| fc (by kernel_rfl)<| fc (by kernel_rfl)<| trivial)<| fc (fc (by kernel_rfl)<| fc (by kernel_rfl)<| fc (by kernel_rfl)<| fc (by kernel_rfl)<| trivial)<| fc (fc (by kernel_rfl)<| fc (by kernel_rfl)<| fc (by kernel_rfl)<| fc (by kernel_rfl)<| trivial)<| fc (fc (by kernel_rfl)<| fc (by kernel_rfl)<| fc (by kernel_rfl)<| trivial)<| fc (fc (by kernel_rfl)<| fc (by kernel_rfl)<| fc (by kernel_rfl)<| trivial)<| fc (fc (by kernel_rfl)<| fc (by kernel_rfl)<| fc (by kernel_rfl)<| trivial)<| fc (fc (by kernel_rfl)<| fc (by kernel_rfl)<| fc (by kernel_rfl)<| fc (by kernel_rfl)<| trivial)<| fc (fc (by kernel_rfl)<| fc (by kernel_rfl)<| trivial)<| fc (fc (by kernel_rfl)<| fc (by kernel_rfl)<| fc (by kernel_rfl)<| trivial)<| fc (fc (by kernel_rfl)<| fc (by kernel_rfl)<| fc (by kernel_rfl)<| fc (by kernel_rfl)<| trivial)<| fc (fc (by kernel_rfl)<| fc (by kernel_rfl)<| fc (by kernel_rfl)<| fc (by kernel_rfl)<| trivial)<| fc (fc (by kernel_rfl)<| fc (by kernel_rfl)<| fc (by kernel_rfl)<| trivial)<| fc (fc (by kernel_rfl)<| fc (by kernel_rfl)<| fc (by kernel_rfl)<| trivial)<| fc (fc (by kernel_rfl)<| fc (by kernel_rfl)<| fc (by kernel_rfl)<| trivial)<| fc (trivial)<| fc (trivial)<| trivial),
  (fc (by kernel_rfl)<| fc (by kernel_rfl)<| fc (by kernel_rfl)<| fc (by kernel_rfl)<| fc (by kernel_rfl)<| fc (by kernel_rfl)<| fc (by kernel_rfl)<| fc (by kernel_rfl)<| fc (by kernel_rfl)<| fc (by kernel_rfl)<| fc (by kernel_rfl)<| fc (by kernel_rfl)<| fc (by kernel_rfl)<| fc (by kernel_rfl)<| fc (by kernel_rfl)<| fc (by kernel_rfl)<| fc (by kernel_rfl)<| fc (by kernel_rfl)<| fc (by kernel_rfl)<| fc (by kernel_rfl)<| fc (by kernel_rfl)<| fc (by kernel_rfl)<| fc (by kernel_rfl)<| fc (by kernel_rfl)<| fc (by kernel_rfl)<| fc (by kernel_rfl)<| fc (by kernel_rfl)<| fc (by kernel_rfl)<| fc (by kernel_rfl)<| fc (by kernel_rfl)<| fc (by kernel_rfl)<| fc (by kernel_rfl)<| fc (by kernel_rfl)<| fc (by kernel_rfl)<| fc (by kernel_rfl)<| fc (by kernel_rfl)<| fc (by kernel_rfl)<| fc (by kernel_rfl)<| fc (by kernel_rfl)<| fc (by kernel_rfl)<| fc (by kernel_rfl)<| fc (by kernel_rfl)<| fc (by kernel_rfl)<| fc (by kernel_rfl)<| fc (by kernel_rfl)<| fc (by kernel_rfl)<| trivial),
  (fc (by kernel_rfl)<| trivial),
  (fc (by kernel_rfl)<| fc (by kernel_rfl)<| fc (by kernel_rfl)<| trivial),
  (fc (by kernel_rfl)<| fc (by kernel_rfl)<| fc (by kernel_rfl)<| fc (by kernel_rfl)<| fc (by kernel_rfl)<| fc (by kernel_rfl)<| fc (by kernel_rfl)<| fc (by kernel_rfl)<| fc (by kernel_rfl)<| fc (by kernel_rfl)<| fc (by kernel_rfl)<| fc (by kernel_rfl)<| fc (by kernel_rfl)<| fc (by kernel_rfl)<| fc (by kernel_rfl)<| trivial),
  (fc (by kernel_rfl)<| fc (by kernel_rfl)<| trivial)⟩
end Go.Proofs.YtokkjaflmcjlhaaGreat
namespace Go.Proofs.YtokkjaflmcjlhaaGreat
open Go.ChangeShapes Go.WideShapes Go.ChangeAt Go.RowKit
set_option linter.unusedVariables false
set_option linter.unusedSimpArgs false
set_option maxRecDepth 100000
set_option maxHeartbeats 4000000
abbrev bP (p:AV × List (Nat × Rs)) (t:T):T:= .call p.1 p.2 t
abbrev jE (p:List AV × List (Nat × Rs) × AV × List (Nat × Rs)) (r:List (Nat × Nat)) (t:T):T:= .callx p.1 p.2.1 r p.2.2.1 p.2.2.2 t
theorem yq {p:Prop} [Decidable p] (h:decide p=true):p:=of_decide_eq_true h
theorem nq {p:Prop} [Decidable p] (h:decide p=false): ¬p:=of_decide_eq_false h
abbrev Em {α:Type} (enc:α→List bI) (l:List α) (i:Nat) (P:α→Prop):Prop:=l.map enc=l.map enc∧i<l.length∧ ∀x,l[i]? =some x→P x
abbrev Lm {α:Type} (enc:α→List bI) (l:List α):Prop:=(l.map enc).length=l.length
def jH (b:Bool):List bI:=[.bool b]
def aN2 (s:ByteArray):Prop:=s.size≤maxLen
theorem aR7 {A:Nat→Prop} {w:World} {s:ByteArray}:gY A w (.str s) (.string s):=by unfold gY;rfl
theorem rdI {w:World} {c:Value} {n:Int} (h:aMq w [c] n):gY (Lv w) w (.int .i64 n) c:=by
 have e:=h.1
 simp at e
 subst e;exact rdV_int
theorem rdS {w:World} {c:Value} {s:ByteArray} (h:aSI w [c] s):gY (Lv w) w (.str s) c:=by
 have e:=h.1
 simp at e
 subst e;exact aR7
theorem gL {n:Nat} {m:Int} (h: ¬aO n m<0):(n:Int)≤m:=by
 unfold aO at h
 split at h
 ·assumption
 ·omega
theorem jF {n:Nat} {m:Int} (h:aO n m<0): ¬(n:Int)≤m:=by
 unfold aO at h
 split at h
 ·omega
 ·assumption
theorem mK {α:Type} {l:List α} {k:Nat} {x z:α} (h:l[k]? =some x):(l.take k++List.replicate (l.length - k) z).set k x=l.take (k+1)++List.replicate (l.length - (k+1)) z:=by
 have hk:k<l.length:=(List.getElem?_eq_some_iff.1 h).1
 rw [show l.length - k=(l.length - (k+1))+1 by omega,List.replicate_succ,List.set_append_right _ _ (by simp;omega),cN h]
 simp [show k - min k l.length=0 by omega]
theorem pI {α:Type} {l:List α} {k:Nat} {z:α} (h:k≤l.length):(l.take k++List.replicate (l.length - k) z).length=l.length:=by simp;omega
theorem mL {α:Type} {l:List α} {k:Nat} {z:α} (h:k≤l.length) (h' : ¬k<l.length):l.take k++List.replicate (l.length - k) z=l:=by
 rw [show k=l.length by omega];simp
theorem jK {α:Type} {l:List α} {i:Nat} {x y:α} (h:(l.set i y)[i]? =some x):x=y:=by
 rw [List.getElem?_set_self'] at h
 cases hl:l[i]? with
 | none=>simp [hl] at h
 | some z=>simp [hl] at h;exact h.symm
theorem bY {α:Type} {l:List α} {k:Nat} (h:k<l.length): ∃x,l[k]? =some x:=⟨_,List.getElem?_eq_getElem h⟩
def aF (l:List Int):List bI:=[.sl 3 1 (l.map intD)]
def aD4 (l:List Int):Prop:= ∀x∈l,Fits x
def bZ (l:List Int):Nat:=l.length
theorem aHl (l:List Int):l.length≤bZ l:=Nat.le_refl _
def aTB (l:List (List Int)):List bI:=[.sl 32 1 (l.map aF)]
def aFQ (l:List (List Int)):Prop:= ∀x∈l,aD4 x
def cI (l:List (List Int)):Nat:=xB bZ l
theorem gA (l:List (List Int)):l.length≤cI l:=qZ _ l
theorem qT {l:List (List Int)} {k:Nat} {y:List Int} (h:l[k]? =some y):bZ y≤cI l:=rA _ h
structure aR where
 name:ByteArray
 arity:Int
 rows:List (List Int)
 deriving DecidableEq
def aL (x:aR):List bI:=[.str x.name,.int .i64 x.arity,.sl 32 1 (x.rows.map aF)]
def aL0 (x:aR):Prop:=aN2 x.name∧Fits x.arity∧aFQ x.rows
def eQ (x:aR):Nat:=ByteArray.size x.name+cI x.rows
def gB:aR:=⟨ByteArray.empty,(0:Int),[]⟩
def aR8 (l:List aR):List bI:=[.sl 162 3 (l.map aL)]
def aEX (l:List aR):Prop:= ∀x∈l,aL0 x
def hJ (l:List aR):Nat:=xB eQ l
theorem aD5 (l:List aR):l.length≤hJ l:=qZ _ l
theorem aAq {l:List aR} {k:Nat} {y:aR} (h:l[k]? =some y):eQ y≤hJ l:=rA _ h
structure aT where
 tables:List aR
 deriving DecidableEq
def aN3 (x:aT):List bI:=[.sl 162 3 (x.tables.map aL)]
def aCv (x:aT):Prop:=aEX x.tables
def bD (x:aT):Nat:=hJ x.tables
structure bK where
 name:ByteArray
 vars:List Int
 deriving DecidableEq
def aU (x:bK):List bI:=[.str x.name,.sl 3 1 (x.vars.map intD)]
def aP5 (x:bK):Prop:=aN2 x.name∧aD4 x.vars
def iJ (x:bK):Nat:=ByteArray.size x.name+bZ x.vars
def dL:bK:=⟨ByteArray.empty,[]⟩
def aTC (l:List bK):List bI:=[.sl 131 2 (l.map aU)]
def aIn (l:List bK):Prop:= ∀x∈l,aP5 x
def lG (l:List bK):Nat:=xB iJ l
theorem aFR (l:List bK):l.length≤lG l:=qZ _ l
theorem aN4 {l:List bK} {k:Nat} {y:bK} (h:l[k]? =some y):iJ y≤lG l:=rA _ h
structure QueryD where
 variableCount:Int
 atoms:List bK
 deriving DecidableEq
def aTD (x:QueryD):List bI:=[.int .i64 x.variableCount,.sl 131 2 (x.atoms.map aU)]
def aFS (x:QueryD):Prop:=Fits x.variableCount∧aIn x.atoms
def jL (x:QueryD):Nat:=lG x.atoms
structure aH where
 columns:List Int
 values:List (List Int)
 counts:List Int
 deriving DecidableEq
def aB (x:aH):List bI:=[.sl 3 1 (x.columns.map intD),.sl 32 1 (x.values.map aF),.sl 3 1 (x.counts.map intD)]
def yC (x:aH):Prop:=aD4 x.columns∧aFQ x.values∧aD4 x.counts
def bH (x:aH):Nat:=bZ x.columns+cI x.values+bZ x.counts
def eH:aH:=⟨[],[],[]⟩
def aIo (l:List aH):List bI:=[.sl 218 3 (l.map aB)]
def qG (l:List aH):Prop:= ∀x∈l,yC x
def cR (l:List aH):Nat:=xB bH l
theorem iF (l:List aH):l.length≤cR l:=qZ _ l
theorem iR {l:List aH} {k:Nat} {y:aH} (h:l[k]? =some y):bH y≤cR l:=rA _ h
structure aC where
 name:ByteArray
 arity:Int
 rowCount:Int
 groups:List aH
 deriving DecidableEq
def aA (x:aC):List bI:=[.str x.name,.int .i64 x.arity,.int .i64 x.rowCount,.sl 218 3 (x.groups.map aB)]
def yD (x:aC):Prop:=aN2 x.name∧Fits x.arity∧Fits x.rowCount∧qG x.groups
def bA (x:aC):Nat:=ByteArray.size x.name+cR x.groups
def dP:aC:=⟨ByteArray.empty,(0:Int),(0:Int),[]⟩
def aIp (l:List aC):List bI:=[.sl 121 4 (l.map aA)]
def qH (l:List aC):Prop:= ∀x∈l,yD x
def dE (l:List aC):Nat:=xB bA l
theorem tR (l:List aC):l.length≤dE l:=qZ _ l
theorem mB {l:List aC} {k:Nat} {y:aC} (h:l[k]? =some y):bA y≤dE l:=rA _ h
structure bS where
 version:Int
 tables:List aC
 deriving DecidableEq
def aL1 (x:bS):List bI:=[.int .i64 x.version,.sl 121 4 (x.tables.map aA)]
def aAr (x:bS):Prop:=Fits x.version∧qH x.tables
def bL (x:bS):Nat:=dE x.tables
def aFT:bS:=⟨(0:Int),[]⟩
structure aM where
 name:ByteArray
 src:List Int
 dst:Int
 deriving DecidableEq
def aD (x:aM):List bI:=[.str x.name,.sl 3 1 (x.src.map intD),.int .i64 x.dst]
def yE (x:aM):Prop:=aN2 x.name∧aD4 x.src∧Fits x.dst
def bV (x:aM):Nat:=ByteArray.size x.name+bZ x.src
def eZ:aM:=⟨ByteArray.empty,[],(0:Int)⟩
def aIq (l:List aM):List bI:=[.sl 168 3 (l.map aD)]
def qI (l:List aM):Prop:= ∀x∈l,yE x
def bU (l:List aM):Nat:=xB bV l
theorem tS (l:List aM):l.length≤bU l:=qZ _ l
theorem aEG {l:List aM} {k:Nat} {y:aM} (h:l[k]? =some y):bV y≤bU l:=rA _ h
structure aG where
 name:ByteArray
 column:Int
 into:ByteArray
 intoColumn:Int
 deriving DecidableEq
def aE (x:aG):List bI:=[.str x.name,.int .i64 x.column,.str x.into,.int .i64 x.intoColumn]
def aAs (x:aG):Prop:=aN2 x.name∧Fits x.column∧aN2 x.into∧Fits x.intoColumn
def cF (x:aG):Nat:=ByteArray.size x.name+ByteArray.size x.into
def eY:aG:=⟨ByteArray.empty,(0:Int),ByteArray.empty,(0:Int)⟩
def aKA (l:List aG):List bI:=[.sl 170 4 (l.map aE)]
def sL (l:List aG):Prop:= ∀x∈l,aAs x
def cT (l:List aG):Nat:=xB cF l
theorem gO (l:List aG):l.length≤cT l:=qZ _ l
theorem aFU {l:List aG} {k:Nat} {y:aG} (h:l[k]? =some y):cF y≤cT l:=rA _ h
structure StoreD where
 database:aT
 catalogue:bS
 dependencies:List aM
 inclusions:List aG
 deriving DecidableEq
def aTE (x:StoreD):List bI:=[.sl 162 3 (x.database.tables.map aL),.int .i64 x.catalogue.version,.sl 121 4 (x.catalogue.tables.map aA),.sl 168 3 (x.dependencies.map aD),.sl 170 4 (x.inclusions.map aE)]
def aFV (x:StoreD):Prop:=aCv x.database∧aAr x.catalogue∧qI x.dependencies∧sL x.inclusions
def cJ (x:StoreD):Nat:=bD x.database+bL x.catalogue+bU x.dependencies+cT x.inclusions
theorem kC (s t:ByteArray):(s.toList==t.toList)=decide (s=t):=by
 rw [ByteArray.toList_eq,ByteArray.toList_eq]
 by_cases h:s=t
 ·simp [h]
 ·have: ¬s.data.toList=t.data.toList:=fun e=>h (by cases s;cases t;simp at e;simp [e])
  simp only [h,decide_false,beq_eq_false_iff_ne]
  exact this
theorem mM {α:Type} {l m:List α} {k:Nat} {x:α} (h:l[k]? =some x) (h' :m[k]? =some x) (e:l.take k=m.take k):l.take (k+1)=m.take (k+1):=by rw [cN h,cN h',e]
theorem wK {α:Type} {l m:List α} {k:Nat} {x y:α} (h:l[k]? =some x) (h' :m[k]? =some y) (e: ¬x=y): ¬l=m:=by
 rintro rfl
 rw [h] at h'
 exact e (by injection h')
theorem oA {α:Type} {l m:List α} (h: ¬(l.length:Int)=m.length): ¬l=m:=fun e=>h (by rw [e])
theorem fT {α:Type} {l m:List α} {k:Nat} (hk:l.length≤k) (hl:l.length=m.length) (e:l.take k=m.take k):l=m:=by rwa [List.take_of_length_le hk,List.take_of_length_le (by omega)] at e
abbrev qU (l:List Int) (m:List Int):Prop:=cU Tryz.prog 267 [.one (.sl 3 1 (l.map intD)),.one (.sl 3 1 (m.map intD))] (vB (decide (l=m))) []
theorem aBo (l m:List Int):qU l m:=by
 refine aV bF aS Tryz.func267 (by kernel_rfl) (.len l.length<| .len m.length<| .br (.fin []) (.len l.length<| .loop Nat (Q1 Nat) [5,13,14,15,16,17,18,19,20,21,22,23,24,25] [] (fun k=>[(13,vI (k:Int))]) (fun k=>[]) (fun k=>k≤l.length∧l.take k=m.take k) (fun k=>l.length - k) (fun k=> .br (.elem _ intD l (fun e18=> .elem _ intD m (fun e22=> .br (.fin []) (.back [])))) (.fin [])))) (p:=(l.map intD).length≤9223372036854775807→(m.map intD).length≤9223372036854775807→Lm intD l∧(Lm intD m∧(((!(decide (((l.length:Nat):Int)=((m.length:Nat):Int))))=true→(false)=(decide (l=m))∧True)∧((!(decide (((l.length:Nat):Int)=((m.length:Nat):Int))))=false→Lm intD l∧((∃(k:Nat),(0:Int)=(k:Int)∧k≤l.length∧l.take k=m.take k)∧ ∀(k:Nat),(k≤l.length∧l.take k=m.take k)→((decide ((k:Int)<((l.length:Nat):Int)))=true→0≤(k:Int)∧Em intD l k fun e18=>0≤(k:Int)∧Em intD m k fun e22=>((!(decide (e18=e22)))=true→(false)=(decide (l=m))∧True)∧((!(decide (e18=e22)))=false→cG ((k:Int)+(1:Int))∧ ∃(k' :Nat),((k:Int)+(1:Int))=(k' :Int)∧(k' ≤l.length∧l.take k' =m.take k')∧l.length - k' <l.length - k))∧((decide ((k:Int)<((l.length:Nat):Int)))=false→(true)=(decide (l=m))∧True)))))) (by kernel_rfl) ?_
 intro n0 n1
 simp only [List.length_map] at n0 n1
 refine ⟨List.length_map _,List.length_map _,fun c0=>?_,fun c0=>?_⟩
 ·replace c0:=nq (nt c0)
  refine ⟨?_,trivial⟩
  ·first | (simp [wK hx hy hxy];done) | (simp [oA c0];done) | (simp [fT (by omega) hl ht];done)
 ·replace c0:=yq (nf c0)
  have hl:l.length=m.length:=by omega
  refine ⟨List.length_map _,⟨0,rfl,Nat.zero_le _,rfl⟩,fun k ⟨hk,ht⟩=>?_⟩
  refine ⟨fun c1=>?_,fun c1=>?_⟩
  ·replace c1:=yq c1
   obtain ⟨x,hx⟩:=bY (l:=l) (k:=k) (by omega)
   obtain ⟨y,hy⟩:=bY (l:=m) (k:=k) (by omega)
   refine ⟨by omega,rfl,by omega,fun e18 h18=>?_⟩
   obtain rfl:=(aX hx h18).symm
   refine ⟨by omega,rfl,by omega,fun e22 h22=>?_⟩
   obtain rfl:=(aX hy h22).symm
   refine ⟨fun c2=>?_,fun c2=>?_⟩
   ·replace c2:=nq (nt c2)
    have hxy: ¬x=y:=by simpa using c2
    refine ⟨?_,trivial⟩
    ·first | (simp [wK hx hy hxy];done) | (simp [oA c0];done) | (simp [fT (by omega) hl ht];done)
   ·replace c2:=yq (nf c2)
    have hxy:x=y:=by simpa using c2
    refine ⟨⟨by omega,by omega⟩,?_⟩
    exact ⟨k+1,rfl,⟨by omega,mM hx (by rw [hy,hxy]) ht⟩,by omega⟩
  ·replace c1:=nq c1
   refine ⟨?_,trivial⟩
   ·first | (simp [wK hx hy hxy];done) | (simp [oA c0];done) | (simp [fT (by omega) hl ht];done)
abbrev aP6 (l:List Int) (m:List Int):Prop:=cU Tryz.prog 299 [.one (.sl 3 1 (l.map intD)),.one (.sl 3 1 (m.map intD))] (vB (decide (l=m))) []
theorem aUE (l m:List Int):aP6 l m:=by
 refine aV bF aS Tryz.func299 (by kernel_rfl) (.call (vB (decide (l=m))) []<| .fin []) (p:=(l.map intD).length≤9223372036854775807→(m.map intD).length≤9223372036854775807→qU l m∧(decide (l=m))=(decide (l=m))∧True) (by kernel_rfl) ?_
 intro n0 n1
 simp only [List.length_map] at n0 n1
 refine ⟨aBo _ _,?_,trivial⟩
 ·rfl
abbrev aD6 (l:List (List Int)) (m:List (List Int)):Prop:=cU Tryz.prog 298 [.one (.sl 32 1 (l.map aF)),.one (.sl 32 1 (m.map aF)),.fn 299 []] (vB (decide (l=m))) []
theorem aN5 (l m:List (List Int)):aD6 l m:=by
 refine aV bF aS Tryz.func298 (by kernel_rfl) (.len l.length<| .len m.length<| .br (.fin []) (.len l.length<| .loop Nat (Q1 Nat) [7,8,9,17,18,19,20,21,22,23,24,25,26,27,28,29,30,31] [] (fun k=>[(17,vI (k:Int))]) (fun k=>[]) (fun k=>k≤l.length∧l.take k=m.take k) (fun k=>l.length - k) (fun k=> .br (.elem _ aF l (fun e20=> .elem _ aF m (fun e24=> .call (vB (decide (e20=e24))) []<| .br (.fin []) (.back [])))) (.fin [])))) (p:=(l.map aF).length≤9223372036854775807→(m.map aF).length≤9223372036854775807→Lm aF l∧(Lm aF m∧(((!(decide (((l.length:Nat):Int)=((m.length:Nat):Int))))=true→(false)=(decide (l=m))∧True)∧((!(decide (((l.length:Nat):Int)=((m.length:Nat):Int))))=false→Lm aF l∧((∃(k:Nat),(0:Int)=(k:Int)∧k≤l.length∧l.take k=m.take k)∧ ∀(k:Nat),(k≤l.length∧l.take k=m.take k)→((decide ((k:Int)<((l.length:Nat):Int)))=true→0≤(k:Int)∧Em aF l k fun e20=>0≤(k:Int)∧Em aF m k fun e24=>aP6 e20 e24∧(((!(decide (e20=e24)))=true→(false)=(decide (l=m))∧True)∧((!(decide (e20=e24)))=false→cG ((k:Int)+(1:Int))∧ ∃(k' :Nat),((k:Int)+(1:Int))=(k' :Int)∧(k' ≤l.length∧l.take k' =m.take k')∧l.length - k' <l.length - k)))∧((decide ((k:Int)<((l.length:Nat):Int)))=false→(true)=(decide (l=m))∧True)))))) (by kernel_rfl) ?_
 intro n0 n1
 simp only [List.length_map] at n0 n1
 refine ⟨List.length_map _,List.length_map _,fun c0=>?_,fun c0=>?_⟩
 ·replace c0:=nq (nt c0)
  refine ⟨?_,trivial⟩
  ·first | (simp [wK hx hy hxy];done) | (simp [oA c0];done) | (simp [fT (by omega) hl ht];done)
 ·replace c0:=yq (nf c0)
  have hl:l.length=m.length:=by omega
  refine ⟨List.length_map _,⟨0,rfl,Nat.zero_le _,rfl⟩,fun k ⟨hk,ht⟩=>?_⟩
  refine ⟨fun c1=>?_,fun c1=>?_⟩
  ·replace c1:=yq c1
   obtain ⟨x,hx⟩:=bY (l:=l) (k:=k) (by omega)
   obtain ⟨y,hy⟩:=bY (l:=m) (k:=k) (by omega)
   refine ⟨by omega,rfl,by omega,fun e20 h20=>?_⟩
   obtain rfl:=(aX hx h20).symm
   refine ⟨by omega,rfl,by omega,fun e24 h24=>?_⟩
   obtain rfl:=(aX hy h24).symm
   refine ⟨aUE _ _,fun c2=>?_,fun c2=>?_⟩
   ·replace c2:=nq (nt c2)
    have hxy: ¬x=y:=by simpa using c2
    refine ⟨?_,trivial⟩
    ·first | (simp [wK hx hy hxy];done) | (simp [oA c0];done) | (simp [fT (by omega) hl ht];done)
   ·replace c2:=yq (nf c2)
    have hxy:x=y:=by simpa using c2
    refine ⟨⟨by omega,by omega⟩,?_⟩
    exact ⟨k+1,rfl,⟨by omega,mM hx (by rw [hy,hxy]) ht⟩,by omega⟩
  ·replace c1:=nq c1
   refine ⟨?_,trivial⟩
   ·first | (simp [wK hx hy hxy];done) | (simp [oA c0];done) | (simp [fT (by omega) hl ht];done)
abbrev aA4 (l:List (List Int)) (m:List (List Int)):Prop:=cU Tryz.prog 283 [.one (.sl 32 1 (l.map aF)),.one (.sl 32 1 (m.map aF))] (vB (decide (l=m))) []
theorem aKB (l m:List (List Int)):aA4 l m:=by
 refine aV bF aS Tryz.func283 (by kernel_rfl) (.call (vB (decide (l=m))) []<| .fin []) (p:=(l.map aF).length≤9223372036854775807→(m.map aF).length≤9223372036854775807→aD6 l m∧(decide (l=m))=(decide (l=m))∧True) (by kernel_rfl) ?_
 intro n0 n1
 simp only [List.length_map] at n0 n1
 refine ⟨aN5 _ _,?_,trivial⟩
 ·rfl
theorem jM (a b:aH):decide (a=b)=(decide (a.columns=b.columns)&&(decide (a.values=b.values)&&decide (a.counts=b.counts))):=by
 obtain ⟨a0,a1,a2⟩:=a
 obtain ⟨b0,b1,b2⟩:=b
 simp [Bool.and_assoc]
abbrev aFW (a:aH) (b:aH):Prop:=cU Tryz.prog 263 [.agg [.sl 3 1 (a.columns.map intD),.sl 32 1 (a.values.map aF),.sl 3 1 (a.counts.map intD)],.agg [.sl 3 1 (b.columns.map intD),.sl 32 1 (b.values.map aF),.sl 3 1 (b.counts.map intD)]] (vB (decide (a=b))) []
theorem aP7 (a b:aH):aFW a b:=by
 refine aV bF aS Tryz.func263 (by kernel_rfl) (.call (vB (decide (a.columns=b.columns))) []<| .br (.call (vB (decide (a.values=b.values))) []<| .lit<| .br (.call (vB (decide (a.counts=b.counts))) []<| .fin []) (.fin [])) (.fin [])) (p:=(a.columns.map intD).length≤9223372036854775807→(a.values.map aF).length≤9223372036854775807→(a.counts.map intD).length≤9223372036854775807→(b.columns.map intD).length≤9223372036854775807→(b.values.map aF).length≤9223372036854775807→(b.counts.map intD).length≤9223372036854775807→qU a.columns b.columns∧(((decide (a.columns=b.columns))=true→aA4 a.values b.values∧(((decide (a.values=b.values))=true→qU a.counts b.counts∧(decide (a.counts=b.counts))=(decide (a=b))∧True)∧((decide (a.values=b.values))=false→(false)=(decide (a=b))∧True)))∧((decide (a.columns=b.columns))=false→(false)=(decide (a=b))∧True))) (by kernel_rfl) ?_
 intro n0 n1 n2 n3 n4 n5
 simp only [List.length_map] at n0 n1 n2 n3 n4 n5
 refine ⟨aBo _ _,fun g10=>?_,fun g10=>?_⟩
 ·replace g10:=yq g10
  refine ⟨aKB _ _,fun g17=>?_,fun g17=>?_⟩
  ·replace g17:=yq g17
   refine ⟨aBo _ _,?_,trivial⟩
   ·first | (rw [jM];done) | (rw [jM];simp_all [kC];done)
  ·replace g17:=nq g17
   refine ⟨?_,trivial⟩
   ·first | (rw [jM];done) | (rw [jM];simp_all [kC];done)
 ·replace g10:=nq g10
  refine ⟨?_,trivial⟩
  ·first | (rw [jM];done) | (rw [jM];simp_all [kC];done)
abbrev sM (l:List aH) (m:List aH):Prop:=cU Tryz.prog 262 [.one (.sl 218 3 (l.map aB)),.one (.sl 218 3 (m.map aB)),.fn 263 []] (vB (decide (l=m))) []
theorem aEH (l m:List aH):sM l m:=by
 refine aV bF aS Tryz.func262 (by kernel_rfl) (.len l.length<| .len m.length<| .br (.fin []) (.len l.length<| .loop Nat (Q1 Nat) [7,8,9,17,18,19,20,21,22,23,24,25,26,27,28,29,30,31] [800,900] (fun k=>[(17,vI (k:Int))]) (fun k=>[]) (fun k=>k≤l.length∧l.take k=m.take k) (fun k=>l.length - k) (fun k=> .br (.elem _ aB l (fun e20=> .elem _ aB m (fun e24=> .call (vB (decide (e20=e24))) []<| .br (.fin []) (.back [])))) (.fin [])))) (p:=(l.map aB).length≤9223372036854775807→(m.map aB).length≤9223372036854775807→Lm aB l∧(Lm aB m∧(((!(decide (((l.length:Nat):Int)=((m.length:Nat):Int))))=true→(false)=(decide (l=m))∧True)∧((!(decide (((l.length:Nat):Int)=((m.length:Nat):Int))))=false→Lm aB l∧((∃(k:Nat),(0:Int)=(k:Int)∧k≤l.length∧l.take k=m.take k)∧ ∀(k:Nat),(k≤l.length∧l.take k=m.take k)→((decide ((k:Int)<((l.length:Nat):Int)))=true→0≤(k:Int)∧Em aB l k fun e20=>0≤(k:Int)∧Em aB m k fun e24=>aFW e20 e24∧(((!(decide (e20=e24)))=true→(false)=(decide (l=m))∧True)∧((!(decide (e20=e24)))=false→cG ((k:Int)+(1:Int))∧ ∃(k' :Nat),((k:Int)+(1:Int))=(k' :Int)∧(k' ≤l.length∧l.take k' =m.take k')∧l.length - k' <l.length - k)))∧((decide ((k:Int)<((l.length:Nat):Int)))=false→(true)=(decide (l=m))∧True)))))) (by kernel_rfl) ?_
 intro n0 n1
 simp only [List.length_map] at n0 n1
 refine ⟨List.length_map _,List.length_map _,fun c0=>?_,fun c0=>?_⟩
 ·replace c0:=nq (nt c0)
  refine ⟨?_,trivial⟩
  ·first | (simp [wK hx hy hxy];done) | (simp [oA c0];done) | (simp [fT (by omega) hl ht];done)
 ·replace c0:=yq (nf c0)
  have hl:l.length=m.length:=by omega
  refine ⟨List.length_map _,⟨0,rfl,Nat.zero_le _,rfl⟩,fun k ⟨hk,ht⟩=>?_⟩
  refine ⟨fun c1=>?_,fun c1=>?_⟩
  ·replace c1:=yq c1
   obtain ⟨x,hx⟩:=bY (l:=l) (k:=k) (by omega)
   obtain ⟨y,hy⟩:=bY (l:=m) (k:=k) (by omega)
   refine ⟨by omega,rfl,by omega,fun e20 h20=>?_⟩
   obtain rfl:=(aX hx h20).symm
   refine ⟨by omega,rfl,by omega,fun e24 h24=>?_⟩
   obtain rfl:=(aX hy h24).symm
   refine ⟨aP7 _ _,fun c2=>?_,fun c2=>?_⟩
   ·replace c2:=nq (nt c2)
    have hxy: ¬x=y:=by simpa using c2
    refine ⟨?_,trivial⟩
    ·first | (simp [wK hx hy hxy];done) | (simp [oA c0];done) | (simp [fT (by omega) hl ht];done)
   ·replace c2:=yq (nf c2)
    have hxy:x=y:=by simpa using c2
    refine ⟨⟨by omega,by omega⟩,?_⟩
    exact ⟨k+1,rfl,⟨by omega,mM hx (by rw [hy,hxy]) ht⟩,by omega⟩
  ·replace c1:=nq c1
   refine ⟨?_,trivial⟩
   ·first | (simp [wK hx hy hxy];done) | (simp [oA c0];done) | (simp [fT (by omega) hl ht];done)
theorem dA (a b:aC):decide (a=b)=(decide (a.name=b.name)&&(decide (a.arity=b.arity)&&(decide (a.rowCount=b.rowCount)&&decide (a.groups=b.groups)))):=by
 obtain ⟨a0,a1,a2,a3⟩:=a
 obtain ⟨b0,b1,b2,b3⟩:=b
 simp [Bool.and_assoc]
abbrev nA (a:aC) (b:aC):Prop:=cU Tryz.prog 222 [.agg [.str a.name,.int .i64 a.arity,.int .i64 a.rowCount,.sl 218 3 (a.groups.map aB)],.agg [.str b.name,.int .i64 b.arity,.int .i64 b.rowCount,.sl 218 3 (b.groups.map aB)]] (vB (decide (a=b))) []
theorem uV (a b:aC):nA a b:=by
 refine aV bF aS Tryz.func222 (by kernel_rfl) (.br (.lit<| .lit<| .lit<| .lit<| .lit<| .br (.lit<| .lit<| .lit<| .lit<| .lit<| .br (.call (vB (decide (a.groups=b.groups))) []<| .fin []) (.fin [])) (.fin [])) (.fin [])) (p:=(a.groups.map aB).length≤9223372036854775807→(b.groups.map aB).length≤9223372036854775807→((a.name.toList==b.name.toList)=true→((decide (a.arity=b.arity))=true→((decide (a.rowCount=b.rowCount))=true→sM a.groups b.groups∧(decide (a.groups=b.groups))=(decide (a=b))∧True)∧((decide (a.rowCount=b.rowCount))=false→(false)=(decide (a=b))∧True))∧((decide (a.arity=b.arity))=false→(false)=(decide (a=b))∧True))∧((a.name.toList==b.name.toList)=false→(false)=(decide (a=b))∧True)) (by kernel_rfl) ?_
 intro n0 n1
 simp only [List.length_map] at n0 n1
 refine ⟨fun g10=>?_,fun g10=>?_⟩
 ·refine ⟨fun g17=>?_,fun g17=>?_⟩
  ·replace g17:=yq g17
   refine ⟨fun g24=>?_,fun g24=>?_⟩
   ·replace g24:=yq g24
    refine ⟨aEH _ _,?_,trivial⟩
    ·first | (rw [dA];done) | (rw [dA];simp_all [kC];done)
   ·replace g24:=nq g24
    refine ⟨?_,trivial⟩
    ·first | (rw [dA];done) | (rw [dA];simp_all [kC];done)
  ·replace g17:=nq g17
   refine ⟨?_,trivial⟩
   ·first | (rw [dA];done) | (rw [dA];simp_all [kC];done)
 ·refine ⟨?_,trivial⟩
  ·first | (rw [dA];done) | (rw [dA];simp_all [kC];done)
abbrev sN (l:List aC) (m:List aC):Prop:=cU Tryz.prog 221 [.one (.sl 121 4 (l.map aA)),.one (.sl 121 4 (m.map aA)),.fn 222 []] (vB (decide (l=m))) []
theorem aEI (l m:List aC):sN l m:=by
 refine aV bF aS Tryz.func221 (by kernel_rfl) (.len l.length<| .len m.length<| .br (.fin []) (.len l.length<| .loop Nat (Q1 Nat) [7,8,9,17,18,19,20,21,22,23,24,25,26,27,28,29,30,31] [800,900] (fun k=>[(17,vI (k:Int))]) (fun k=>[]) (fun k=>k≤l.length∧l.take k=m.take k) (fun k=>l.length - k) (fun k=> .br (.elem _ aA l (fun e20=> .elem _ aA m (fun e24=> .call (vB (decide (e20=e24))) []<| .br (.fin []) (.back [])))) (.fin [])))) (p:=(l.map aA).length≤9223372036854775807→(m.map aA).length≤9223372036854775807→Lm aA l∧(Lm aA m∧(((!(decide (((l.length:Nat):Int)=((m.length:Nat):Int))))=true→(false)=(decide (l=m))∧True)∧((!(decide (((l.length:Nat):Int)=((m.length:Nat):Int))))=false→Lm aA l∧((∃(k:Nat),(0:Int)=(k:Int)∧k≤l.length∧l.take k=m.take k)∧ ∀(k:Nat),(k≤l.length∧l.take k=m.take k)→((decide ((k:Int)<((l.length:Nat):Int)))=true→0≤(k:Int)∧Em aA l k fun e20=>0≤(k:Int)∧Em aA m k fun e24=>nA e20 e24∧(((!(decide (e20=e24)))=true→(false)=(decide (l=m))∧True)∧((!(decide (e20=e24)))=false→cG ((k:Int)+(1:Int))∧ ∃(k' :Nat),((k:Int)+(1:Int))=(k' :Int)∧(k' ≤l.length∧l.take k' =m.take k')∧l.length - k' <l.length - k)))∧((decide ((k:Int)<((l.length:Nat):Int)))=false→(true)=(decide (l=m))∧True)))))) (by kernel_rfl) ?_
 intro n0 n1
 simp only [List.length_map] at n0 n1
 refine ⟨List.length_map _,List.length_map _,fun c0=>?_,fun c0=>?_⟩
 ·replace c0:=nq (nt c0)
  refine ⟨?_,trivial⟩
  ·first | (simp [wK hx hy hxy];done) | (simp [oA c0];done) | (simp [fT (by omega) hl ht];done)
 ·replace c0:=yq (nf c0)
  have hl:l.length=m.length:=by omega
  refine ⟨List.length_map _,⟨0,rfl,Nat.zero_le _,rfl⟩,fun k ⟨hk,ht⟩=>?_⟩
  refine ⟨fun c1=>?_,fun c1=>?_⟩
  ·replace c1:=yq c1
   obtain ⟨x,hx⟩:=bY (l:=l) (k:=k) (by omega)
   obtain ⟨y,hy⟩:=bY (l:=m) (k:=k) (by omega)
   refine ⟨by omega,rfl,by omega,fun e20 h20=>?_⟩
   obtain rfl:=(aX hx h20).symm
   refine ⟨by omega,rfl,by omega,fun e24 h24=>?_⟩
   obtain rfl:=(aX hy h24).symm
   refine ⟨uV _ _,fun c2=>?_,fun c2=>?_⟩
   ·replace c2:=nq (nt c2)
    have hxy: ¬x=y:=by simpa using c2
    refine ⟨?_,trivial⟩
    ·first | (simp [wK hx hy hxy];done) | (simp [oA c0];done) | (simp [fT (by omega) hl ht];done)
   ·replace c2:=yq (nf c2)
    have hxy:x=y:=by simpa using c2
    refine ⟨⟨by omega,by omega⟩,?_⟩
    exact ⟨k+1,rfl,⟨by omega,mM hx (by rw [hy,hxy]) ht⟩,by omega⟩
  ·replace c1:=nq c1
   refine ⟨?_,trivial⟩
   ·first | (simp [wK hx hy hxy];done) | (simp [oA c0];done) | (simp [fT (by omega) hl ht];done)
theorem iB (a b:bS):decide (a=b)=(decide (a.version=b.version)&&decide (a.tables=b.tables)):=by
 obtain ⟨a0,a1⟩:=a
 obtain ⟨b0,b1⟩:=b
 simp [Bool.and_assoc]
abbrev aBp (a:bS) (b:bS):Prop:=cU Tryz.prog 147 [.agg [.int .i64 a.version,.sl 121 4 (a.tables.map aA)],.agg [.int .i64 b.version,.sl 121 4 (b.tables.map aA)]] (vB (decide (a=b))) []
theorem aL2 (a b:bS):aBp a b:=by
 refine aV bF aS Tryz.func147 (by kernel_rfl) (.br (.call (vB (decide (a.tables=b.tables))) []<| .fin []) (.fin [])) (p:=(a.tables.map aA).length≤9223372036854775807→(b.tables.map aA).length≤9223372036854775807→((decide (a.version=b.version))=true→sN a.tables b.tables∧(decide (a.tables=b.tables))=(decide (a=b))∧True)∧((decide (a.version=b.version))=false→(false)=(decide (a=b))∧True)) (by kernel_rfl) ?_
 intro n0 n1
 simp only [List.length_map] at n0 n1
 refine ⟨fun g10=>?_,fun g10=>?_⟩
 ·replace g10:=yq g10
  refine ⟨aEI _ _,?_,trivial⟩
  ·first | (rw [iB];done) | (rw [iB];simp_all [kC];done)
 ·replace g10:=nq g10
  refine ⟨?_,trivial⟩
  ·first | (rw [iB];done) | (rw [iB];simp_all [kC];done)
end Go.Proofs.YtokkjaflmcjlhaaGreat
