/-
  Contracts and plain laws, joined: part 4.
-/
import Derived.Test.YtokkjaflmcjlhaaGreatQC2
import Derived.Laws.Strings
namespace Go.Proofs.YtokkjaflmcjlhaaGreat
open Go.ChangeShapes Go.WideShapes Go.ChangeAt Go.RowKit
set_option linter.unusedVariables false
set_option linter.unusedSimpArgs false
set_option maxRecDepth 100000
set_option maxHeartbeats 4000000
def tb:Tb:=⟨[(2,(false,1,8,.int .i64 0)),(3,(false,1,8,.int .i64 0)),(4,(false,1,1,.bool false)),(5,(false,1,1,.int .u8 0)),(6,(false,1,1,.int .u8 0)),(7,(true,4,24,.agg #[.int .i64 0,.int .i64 0,.bool false,.int .u8 0])),(8,(true,4,24,.agg #[.int .i64 0,.int .i64 0,.bool false,.int .u8 0])),(9,(false,1,16,.string ByteArray.empty)),(10,(false,1,16,.string ByteArray.empty)),(11,(false,1,16,.string ByteArray.empty)),(12,(false,1,8,.int .u64 0)),(13,(true,2,24,.agg #[.string ByteArray.empty,.int .u64 0])),(14,(true,2,24,.agg #[.string ByteArray.empty,.int .u64 0])),(21,(false,1,4,.int .i32 0)),(22,(false,1,24,.slice none 0 0)),(23,(true,1,24,.agg #[.slice none 0 0])),(24,(true,1,24,.agg #[.slice none 0 0])),(25,(false,1,24,.slice none 0 0)),(26,(true,2,32,.agg #[.int .i64 0,.slice none 0 0])),(27,(true,2,32,.agg #[.int .i64 0,.slice none 0 0])),(28,(false,1,24,.slice none 0 0)),(29,(false,1,24,.slice none 0 0)),(30,(true,5,104,.agg #[.slice none 0 0,.int .i64 0,.slice none 0 0,.slice none 0 0,.slice none 0 0])),(31,(true,5,104,.agg #[.slice none 0 0,.int .i64 0,.slice none 0 0,.slice none 0 0,.slice none 0 0])),(32,(false,1,24,.slice none 0 0)),(33,(true,3,48,.agg #[.string ByteArray.empty,.bool false,.slice none 0 0])),(34,(true,3,48,.agg #[.string ByteArray.empty,.bool false,.slice none 0 0])),(37,(false,1,24,.slice none 0 0)),(38,(true,1,24,.agg #[.slice none 0 0])),(39,(true,1,24,.agg #[.slice none 0 0])),(40,(false,1,24,.slice none 0 0)),(41,(true,2,32,.agg #[.int .i64 0,.slice none 0 0])),(42,(true,2,32,.agg #[.int .i64 0,.slice none 0 0])),(43,(false,1,24,.slice none 0 0)),(44,(false,1,24,.slice none 0 0)),(45,(true,5,104,.agg #[.slice none 0 0,.int .i64 0,.slice none 0 0,.slice none 0 0,.slice none 0 0])),(46,(true,5,104,.agg #[.slice none 0 0,.int .i64 0,.slice none 0 0,.slice none 0 0,.slice none 0 0])),(50,(true,3,48,.agg #[.string ByteArray.empty,.bool false,.slice none 0 0])),(57,(false,1,24,.slice none 0 0)),(61,(false,1,24,.slice none 0 0)),(66,(false,1,24,.slice none 0 0)),(67,(true,2,32,.agg #[.int .i64 0,.slice none 0 0])),(68,(true,2,32,.agg #[.int .i64 0,.slice none 0 0])),(71,(false,1,24,.slice none 0 0)),(72,(true,2,32,.agg #[.int .i64 0,.slice none 0 0])),(73,(true,2,32,.agg #[.int .i64 0,.slice none 0 0])),(88,(false,1,24,.slice none 0 0)),(119,(false,1,24,.slice none 0 0)),(120,(true,4,56,.agg #[.string ByteArray.empty,.int .i64 0,.int .i64 0,.slice none 0 0])),(121,(true,4,56,.agg #[.string ByteArray.empty,.int .i64 0,.int .i64 0,.slice none 0 0])),(130,(true,2,40,.agg #[.string ByteArray.empty,.slice none 0 0])),(131,(true,2,40,.agg #[.string ByteArray.empty,.slice none 0 0])),(148,(true,3,24,.agg #[.int .i64 0,.int .i64 0,.int .i64 0])),(149,(true,3,24,.agg #[.int .i64 0,.int .i64 0,.int .i64 0])),(153,(true,3,48,.agg #[.string ByteArray.empty,.slice none 0 0,.int .i64 0])),(154,(true,3,48,.agg #[.string ByteArray.empty,.slice none 0 0,.int .i64 0])),(156,(true,4,48,.agg #[.string ByteArray.empty,.int .i64 0,.string ByteArray.empty,.int .i64 0])),(157,(true,4,48,.agg #[.string ByteArray.empty,.int .i64 0,.string ByteArray.empty,.int .i64 0])),(160,(false,1,24,.slice none 0 0)),(161,(true,3,48,.agg #[.string ByteArray.empty,.int .i64 0,.slice none 0 0])),(162,(true,3,48,.agg #[.string ByteArray.empty,.int .i64 0,.slice none 0 0])),(168,(true,3,48,.agg #[.string ByteArray.empty,.slice none 0 0,.int .i64 0])),(170,(true,4,48,.agg #[.string ByteArray.empty,.int .i64 0,.string ByteArray.empty,.int .i64 0])),(183,(false,1,24,.slice none 0 0)),(185,(true,2,40,.agg #[.string ByteArray.empty,.slice none 0 0])),(202,(true,3,48,.agg #[.string ByteArray.empty,.int .i64 0,.slice none 0 0])),(204,(false,1,24,.slice none 0 0)),(205,(true,4,56,.agg #[.string ByteArray.empty,.int .i64 0,.int .i64 0,.slice none 0 0])),(206,(true,4,56,.agg #[.string ByteArray.empty,.int .i64 0,.int .i64 0,.slice none 0 0])),(217,(true,3,72,.agg #[.slice none 0 0,.slice none 0 0,.slice none 0 0])),(218,(true,3,72,.agg #[.slice none 0 0,.slice none 0 0,.slice none 0 0])),(232,(false,1,24,.slice none 0 0)),(247,(false,1,8,.int .u64 0)),(251,(true,3,72,.agg #[.slice none 0 0,.slice none 0 0,.slice none 0 0])),(255,(false,1,8,.int .i64 0)),(264,(false,1,4,.int .u32 0)),(266,(false,1,8,.int .u64 0)),(274,(false,1,8,.int .u64 0)),(291,(true,0,0,.agg #[])),(292,(true,0,0,.agg #[])),(294,(false,1,1,.int .u8 0)),(295,(false,1,1,.int .u8 0)),(298,(false,1,4,.int .i32 0)),(299,(false,1,4,.int .i32 0))],
 [(22,202),(25,206),(28,154),(29,157),(32,3),(37,162),(40,121),(43,168),(44,170),(57,34),(61,50),(66,185),(71,131),(88,149),(119,218),(160,32),(183,5),(204,251),(232,4)],
 [(7,[(0,(0,2)),(1,(1,3)),(2,(2,4)),(3,(3,6))]),(8,[(0,(0,2)),(1,(1,3)),(2,(2,4)),(3,(3,6))]),(13,[(0,(0,9)),(1,(1,12))]),(14,[(0,(0,9)),(1,(1,12))]),(23,[(0,(0,22))]),(24,[(0,(0,22))]),(26,[(0,(0,3)),(1,(1,25))]),(27,[(0,(0,3)),(1,(1,25))]),(30,[(0,(0,24)),(1,(1,27)),(2,(3,28)),(3,(4,29))]),(31,[(0,(0,24)),(1,(1,27)),(2,(3,28)),(3,(4,29))]),(33,[(0,(0,9)),(1,(1,4)),(2,(2,32))]),(34,[(0,(0,9)),(1,(1,4)),(2,(2,32))]),(38,[(0,(0,37))]),(39,[(0,(0,37))]),(41,[(0,(0,3)),(1,(1,40))]),(42,[(0,(0,3)),(1,(1,40))]),(45,[(0,(0,39)),(1,(1,42)),(2,(3,43)),(3,(4,44))]),(46,[(0,(0,39)),(1,(1,42)),(2,(3,43)),(3,(4,44))]),(50,[(0,(0,9)),(1,(1,4)),(2,(2,32))]),(67,[(0,(0,3)),(1,(1,66))]),(68,[(0,(0,3)),(1,(1,66))]),(72,[(0,(0,3)),(1,(1,71))]),(73,[(0,(0,3)),(1,(1,71))]),(120,[(0,(0,9)),(1,(1,3)),(2,(2,3)),(3,(3,119))]),(121,[(0,(0,9)),(1,(1,3)),(2,(2,3)),(3,(3,119))]),(130,[(0,(0,9)),(1,(1,32))]),(131,[(0,(0,9)),(1,(1,32))]),(148,[(0,(0,3)),(1,(1,3)),(2,(2,3))]),(149,[(0,(0,3)),(1,(1,3)),(2,(2,3))]),(153,[(0,(0,9)),(1,(1,32)),(2,(2,3))]),(154,[(0,(0,9)),(1,(1,32)),(2,(2,3))]),(156,[(0,(0,9)),(1,(1,3)),(2,(2,9)),(3,(3,3))]),(157,[(0,(0,9)),(1,(1,3)),(2,(2,9)),(3,(3,3))]),(161,[(0,(0,9)),(1,(1,3)),(2,(2,160))]),(162,[(0,(0,9)),(1,(1,3)),(2,(2,160))]),(168,[(0,(0,9)),(1,(1,32)),(2,(2,3))]),(170,[(0,(0,9)),(1,(1,3)),(2,(2,9)),(3,(3,3))]),(185,[(0,(0,9)),(1,(1,32))]),(202,[(0,(0,9)),(1,(1,3)),(2,(2,160))]),(205,[(0,(0,9)),(1,(1,3)),(2,(2,3)),(3,(3,204))]),(206,[(0,(0,9)),(1,(1,3)),(2,(2,3)),(3,(3,204))]),(217,[(0,(0,32)),(1,(1,160)),(2,(2,32))]),(218,[(0,(0,32)),(1,(1,160)),(2,(2,32))]),(251,[(0,(0,32)),(1,(1,160)),(2,(2,32))]),(291,[]),(292,[])],
 [(7,(.agg #[.int .i64 0,.int .i64 0,.bool false,.int .u8 0],[(0,1),(1,1),(2,1),(3,1)])),(8,(.agg #[.int .i64 0,.int .i64 0,.bool false,.int .u8 0],[(0,1),(1,1),(2,1),(3,1)])),(13,(.agg #[.string ByteArray.empty,.int .u64 0],[(0,1),(1,1)])),(14,(.agg #[.string ByteArray.empty,.int .u64 0],[(0,1),(1,1)])),(23,(.agg #[.slice none 0 0],[(0,1)])),(24,(.agg #[.slice none 0 0],[(0,1)])),(26,(.agg #[.int .i64 0,.slice none 0 0],[(0,1),(1,1)])),(27,(.agg #[.int .i64 0,.slice none 0 0],[(0,1),(1,1)])),(30,(.agg #[.slice none 0 0,.int .i64 0,.slice none 0 0,.slice none 0 0,.slice none 0 0],[(0,1),(1,2),(3,1),(4,1)])),(31,(.agg #[.slice none 0 0,.int .i64 0,.slice none 0 0,.slice none 0 0,.slice none 0 0],[(0,1),(1,2),(3,1),(4,1)])),(33,(.agg #[.string ByteArray.empty,.bool false,.slice none 0 0],[(0,1),(1,1),(2,1)])),(34,(.agg #[.string ByteArray.empty,.bool false,.slice none 0 0],[(0,1),(1,1),(2,1)])),(38,(.agg #[.slice none 0 0],[(0,1)])),(39,(.agg #[.slice none 0 0],[(0,1)])),(41,(.agg #[.int .i64 0,.slice none 0 0],[(0,1),(1,1)])),(42,(.agg #[.int .i64 0,.slice none 0 0],[(0,1),(1,1)])),(45,(.agg #[.slice none 0 0,.int .i64 0,.slice none 0 0,.slice none 0 0,.slice none 0 0],[(0,1),(1,2),(3,1),(4,1)])),(46,(.agg #[.slice none 0 0,.int .i64 0,.slice none 0 0,.slice none 0 0,.slice none 0 0],[(0,1),(1,2),(3,1),(4,1)])),(50,(.agg #[.string ByteArray.empty,.bool false,.slice none 0 0],[(0,1),(1,1),(2,1)])),(67,(.agg #[.int .i64 0,.slice none 0 0],[(0,1),(1,1)])),(68,(.agg #[.int .i64 0,.slice none 0 0],[(0,1),(1,1)])),(72,(.agg #[.int .i64 0,.slice none 0 0],[(0,1),(1,1)])),(73,(.agg #[.int .i64 0,.slice none 0 0],[(0,1),(1,1)])),(120,(.agg #[.string ByteArray.empty,.int .i64 0,.int .i64 0,.slice none 0 0],[(0,1),(1,1),(2,1),(3,1)])),(121,(.agg #[.string ByteArray.empty,.int .i64 0,.int .i64 0,.slice none 0 0],[(0,1),(1,1),(2,1),(3,1)])),(130,(.agg #[.string ByteArray.empty,.slice none 0 0],[(0,1),(1,1)])),(131,(.agg #[.string ByteArray.empty,.slice none 0 0],[(0,1),(1,1)])),(148,(.agg #[.int .i64 0,.int .i64 0,.int .i64 0],[(0,1),(1,1),(2,1)])),(149,(.agg #[.int .i64 0,.int .i64 0,.int .i64 0],[(0,1),(1,1),(2,1)])),(153,(.agg #[.string ByteArray.empty,.slice none 0 0,.int .i64 0],[(0,1),(1,1),(2,1)])),(154,(.agg #[.string ByteArray.empty,.slice none 0 0,.int .i64 0],[(0,1),(1,1),(2,1)])),(156,(.agg #[.string ByteArray.empty,.int .i64 0,.string ByteArray.empty,.int .i64 0],[(0,1),(1,1),(2,1),(3,1)])),(157,(.agg #[.string ByteArray.empty,.int .i64 0,.string ByteArray.empty,.int .i64 0],[(0,1),(1,1),(2,1),(3,1)])),(161,(.agg #[.string ByteArray.empty,.int .i64 0,.slice none 0 0],[(0,1),(1,1),(2,1)])),(162,(.agg #[.string ByteArray.empty,.int .i64 0,.slice none 0 0],[(0,1),(1,1),(2,1)])),(168,(.agg #[.string ByteArray.empty,.slice none 0 0,.int .i64 0],[(0,1),(1,1),(2,1)])),(170,(.agg #[.string ByteArray.empty,.int .i64 0,.string ByteArray.empty,.int .i64 0],[(0,1),(1,1),(2,1),(3,1)])),(185,(.agg #[.string ByteArray.empty,.slice none 0 0],[(0,1),(1,1)])),(202,(.agg #[.string ByteArray.empty,.int .i64 0,.slice none 0 0],[(0,1),(1,1),(2,1)])),(205,(.agg #[.string ByteArray.empty,.int .i64 0,.int .i64 0,.slice none 0 0],[(0,1),(1,1),(2,1),(3,1)])),(206,(.agg #[.string ByteArray.empty,.int .i64 0,.int .i64 0,.slice none 0 0],[(0,1),(1,1),(2,1),(3,1)])),(217,(.agg #[.slice none 0 0,.slice none 0 0,.slice none 0 0],[(0,1),(1,1),(2,1)])),(218,(.agg #[.slice none 0 0,.slice none 0 0,.slice none 0 0],[(0,1),(1,1),(2,1)])),(251,(.agg #[.slice none 0 0,.slice none 0 0,.slice none 0 0],[(0,1),(1,1),(2,1)])),(291,(.agg #[],[(0,0)])),(292,(.agg #[],[(0,0)]))],
 [(4,())],
 [(9,()),(10,()),(11,())],
 [(2,.i64),(3,.i64),(5,.u8),(6,.u8),(12,.u64),(21,.i32),(247,.u64),(255,.i64),(264,.u32),(266,.u64),(274,.u64),(294,.u8),(295,.u8),(298,.i32),(299,.i32)],
 [(149,[0,0,0]),(170,[2,0,2,0])]⟩
theorem fc {α:Type} {p:Nat→α→Prop} {k:Nat} {v:α} {l:List (Nat × α)} (h:p k v) (t:mW p l):mW p ((k,v)::l):=⟨h,t⟩
theorem aU:Tryz.prog.follows .mixedOrders=true:=by kernel_rfl
set_option maxRecDepth 100000 in
theorem bK:kR Tryz.prog tb:=
 ⟨(fc (by kernel_rfl)<| fc (by kernel_rfl)<| fc (by kernel_rfl)<| fc (by kernel_rfl)<| fc (by kernel_rfl)<| fc (by kernel_rfl)<| fc (by kernel_rfl)<| fc (by kernel_rfl)<| fc (by kernel_rfl)<| fc (by kernel_rfl)<| fc (by kernel_rfl)<| fc (by kernel_rfl)<| fc (by kernel_rfl)<| fc (by kernel_rfl)<| fc (by kernel_rfl)<| fc (by kernel_rfl)<| fc (by kernel_rfl)<| fc (by kernel_rfl)<| fc (by kernel_rfl)<| fc (by kernel_rfl)<| fc (by kernel_rfl)<| fc (by kernel_rfl)<| fc (by kernel_rfl)<| fc (by kernel_rfl)<| fc (by kernel_rfl)<| fc (by kernel_rfl)<| fc (by kernel_rfl)<| fc (by kernel_rfl)<| fc (by kernel_rfl)<| fc (by kernel_rfl)<| fc (by kernel_rfl)<| fc (by kernel_rfl)<| fc (by kernel_rfl)<| fc (by kernel_rfl)<| fc (by kernel_rfl)<| fc (by kernel_rfl)<| fc (by kernel_rfl)<| fc (by kernel_rfl)<| fc (by kernel_rfl)<| fc (by kernel_rfl)<| fc (by kernel_rfl)<| fc (by kernel_rfl)<| fc (by kernel_rfl)<| fc (by kernel_rfl)<| fc (by kernel_rfl)<| fc (by kernel_rfl)<| fc (by kernel_rfl)<| fc (by kernel_rfl)<| fc (by kernel_rfl)<| fc (by kernel_rfl)<| fc (by kernel_rfl)<| fc (by kernel_rfl)<| fc (by kernel_rfl)<| fc (by kernel_rfl)<| fc (by kernel_rfl)<| fc (by kernel_rfl)<| fc (by kernel_rfl)<| fc (by kernel_rfl)<| fc (by kernel_rfl)<| fc (by kernel_rfl)<| fc (by kernel_rfl)<| fc (by kernel_rfl)<| fc (by kernel_rfl)<| fc (by kernel_rfl)<| fc (by kernel_rfl)<| fc (by kernel_rfl)<| fc (by kernel_rfl)<| fc (by kernel_rfl)<| fc (by kernel_rfl)<| fc (by kernel_rfl)<| fc (by kernel_rfl)<| fc (by kernel_rfl)<| fc (by kernel_rfl)<| fc (by kernel_rfl)<| fc (by kernel_rfl)<| fc (by kernel_rfl)<| fc (by kernel_rfl)<| fc (by kernel_rfl)<| fc (by kernel_rfl)<| fc (by kernel_rfl)<| fc (by kernel_rfl)<| fc (by kernel_rfl)<| fc (by kernel_rfl)<| fc (by kernel_rfl)<| trivial),
  (fc (by kernel_rfl)<| fc (by kernel_rfl)<| fc (by kernel_rfl)<| fc (by kernel_rfl)<| fc (by kernel_rfl)<| fc (by kernel_rfl)<| fc (by kernel_rfl)<| fc (by kernel_rfl)<| fc (by kernel_rfl)<| fc (by kernel_rfl)<| fc (by kernel_rfl)<| fc (by kernel_rfl)<| fc (by kernel_rfl)<| fc (by kernel_rfl)<| fc (by kernel_rfl)<| fc (by kernel_rfl)<| fc (by kernel_rfl)<| fc (by kernel_rfl)<| fc (by kernel_rfl)<| trivial),
  (fc (fc (by kernel_rfl)<| fc (by kernel_rfl)<| fc (by kernel_rfl)<| fc (by kernel_rfl)<| trivial)<| fc (fc (by kernel_rfl)<| fc (by kernel_rfl)<| fc (by kernel_rfl)<| fc (by kernel_rfl)<| trivial)<| fc (fc (by kernel_rfl)<| fc (by kernel_rfl)<| trivial)<| fc (fc (by kernel_rfl)<| fc (by kernel_rfl)<| trivial)<| fc (fc (by kernel_rfl)<| trivial)<| fc (fc (by kernel_rfl)<| trivial)<| fc (fc (by kernel_rfl)<| fc (by kernel_rfl)<| trivial)<| fc (fc (by kernel_rfl)<| fc (by kernel_rfl)<| trivial)<| fc (fc (by kernel_rfl)<| fc (by kernel_rfl)<| fc (by kernel_rfl)<| fc (by kernel_rfl)<| trivial)<| fc (fc (by kernel_rfl)<| fc (by kernel_rfl)<| fc (by kernel_rfl)<| fc (by kernel_rfl)<| trivial)<| fc (fc (by kernel_rfl)<| fc (by kernel_rfl)<| fc (by kernel_rfl)<| trivial)<| fc (fc (by kernel_rfl)<| fc (by kernel_rfl)<| fc (by kernel_rfl)<| trivial)<| fc (fc (by kernel_rfl)<| trivial)<| fc (fc (by kernel_rfl)<| trivial)<| fc (fc (by kernel_rfl)<| fc (by kernel_rfl)<| trivial)<| fc (fc (by kernel_rfl)<| fc (by kernel_rfl)<| trivial)<| fc (fc (by kernel_rfl)<| fc (by kernel_rfl)<| fc (by kernel_rfl)<| fc (by kernel_rfl)<| trivial)<| fc (fc (by kernel_rfl)<| fc (by kernel_rfl)<| fc (by kernel_rfl)<| fc (by kernel_rfl)<| trivial)<| fc (fc (by kernel_rfl)<| fc (by kernel_rfl)<| fc (by kernel_rfl)<| trivial)<| fc (fc (by kernel_rfl)<| fc (by kernel_rfl)<| trivial)<| fc (fc (by kernel_rfl)<| fc (by kernel_rfl)<| trivial)<| fc (fc (by kernel_rfl)<| fc (by kernel_rfl)<| trivial)<| fc (fc (by kernel_rfl)<| fc (by kernel_rfl)<| trivial)<| fc (fc (by kernel_rfl)<| fc (by kernel_rfl)<| fc (by kernel_rfl)<| fc (by kernel_rfl)<| trivial)<| fc (fc (by kernel_rfl)<| fc (by kernel_rfl)<| fc (by kernel_rfl)<| fc (by kernel_rfl)<| trivial)<| fc (fc (by kernel_rfl)<| fc (by kernel_rfl)<| trivial)<| fc (fc (by kernel_rfl)<| fc (by kernel_rfl)<| trivial)<| fc (fc (by kernel_rfl)<| fc (by kernel_rfl)<| fc (by kernel_rfl)<| trivial)<| fc (fc (by kernel_rfl)<| fc (by kernel_rfl)<| fc (by kernel_rfl)<| trivial)<| fc (fc (by kernel_rfl)<| fc (by kernel_rfl)<| fc (by kernel_rfl)<| trivial)<| fc (fc (by kernel_rfl)<| fc (by kernel_rfl)<| fc (by kernel_rfl)<| trivial)<| fc (fc (by kernel_rfl)<| fc (by kernel_rfl)<| fc (by kernel_rfl)<| fc (by kernel_rfl)<| trivial)<| fc (fc (by kernel_rfl)<| fc (by kernel_rfl)<| fc (by kernel_rfl)<| fc (by kernel_rfl)<| trivial)<| fc (fc (by kernel_rfl)<| fc (by kernel_rfl)<| fc (by kernel_rfl)<| trivial)<| fc (fc (by kernel_rfl)<| fc (by kernel_rfl)<| fc (by kernel_rfl)<| trivial)<| fc (fc (by kernel_rfl)<| fc (by kernel_rfl)<| fc (by kernel_rfl)<| trivial)<| fc (fc (by kernel_rfl)<| fc (by kernel_rfl)<| fc (by kernel_rfl)<| fc (by kernel_rfl)<| trivial)<| fc (fc (by kernel_rfl)<| fc (by kernel_rfl)<| trivial)<| fc (fc (by kernel_rfl)<| fc (by kernel_rfl)<| fc (by kernel_rfl)<| trivial)<| fc (fc (by kernel_rfl)<| fc (by kernel_rfl)<| fc (by kernel_rfl)<| fc (by kernel_rfl)<| trivial)<| fc (fc (by kernel_rfl)<| fc (by kernel_rfl)<| fc (by kernel_rfl)<| fc (by kernel_rfl)<| trivial)<| fc (fc (by kernel_rfl)<| fc (by kernel_rfl)<| fc (by kernel_rfl)<| trivial)<| fc (fc (by kernel_rfl)<| fc (by kernel_rfl)<| fc (by kernel_rfl)<| trivial)<| fc (fc (by kernel_rfl)<| fc (by kernel_rfl)<| fc (by kernel_rfl)<| trivial)<| fc (trivial)<| fc (trivial)<| trivial),
  (fc (by kernel_rfl)<| fc (by kernel_rfl)<| fc (by kernel_rfl)<| fc (by kernel_rfl)<| fc (by kernel_rfl)<| fc (by kernel_rfl)<| fc (by kernel_rfl)<| fc (by kernel_rfl)<| fc (by kernel_rfl)<| fc (by kernel_rfl)<| fc (by kernel_rfl)<| fc (by kernel_rfl)<| fc (by kernel_rfl)<| fc (by kernel_rfl)<| fc (by kernel_rfl)<| fc (by kernel_rfl)<| fc (by kernel_rfl)<| fc (by kernel_rfl)<| fc (by kernel_rfl)<| fc (by kernel_rfl)<| fc (by kernel_rfl)<| fc (by kernel_rfl)<| fc (by kernel_rfl)<| fc (by kernel_rfl)<| fc (by kernel_rfl)<| fc (by kernel_rfl)<| fc (by kernel_rfl)<| fc (by kernel_rfl)<| fc (by kernel_rfl)<| fc (by kernel_rfl)<| fc (by kernel_rfl)<| fc (by kernel_rfl)<| fc (by kernel_rfl)<| fc (by kernel_rfl)<| fc (by kernel_rfl)<| fc (by kernel_rfl)<| fc (by kernel_rfl)<| fc (by kernel_rfl)<| fc (by kernel_rfl)<| fc (by kernel_rfl)<| fc (by kernel_rfl)<| fc (by kernel_rfl)<| fc (by kernel_rfl)<| fc (by kernel_rfl)<| fc (by kernel_rfl)<| fc (by kernel_rfl)<| trivial),
  (fc (by kernel_rfl)<| trivial),
  (fc (by kernel_rfl)<| fc (by kernel_rfl)<| fc (by kernel_rfl)<| trivial),
  (fc (by kernel_rfl)<| fc (by kernel_rfl)<| fc (by kernel_rfl)<| fc (by kernel_rfl)<| fc (by kernel_rfl)<| fc (by kernel_rfl)<| fc (by kernel_rfl)<| fc (by kernel_rfl)<| fc (by kernel_rfl)<| fc (by kernel_rfl)<| fc (by kernel_rfl)<| fc (by kernel_rfl)<| fc (by kernel_rfl)<| fc (by kernel_rfl)<| fc (by kernel_rfl)<| trivial),
  (fc (by kernel_rfl)<| fc (by kernel_rfl)<| trivial)⟩
end Go.Proofs.YtokkjaflmcjlhaaGreat
namespace Go.Proofs.YtokkjaflmcjlhaaGreat
open Go.ChangeShapes Go.WideShapes Go.ChangeAt Go.RowKit
set_option linter.unusedVariables false
set_option linter.unusedSimpArgs false
set_option maxRecDepth 100000
set_option maxHeartbeats 4000000
abbrev cI (p:AV × List (Nat × Rs)) (t:T):T:= .call p.1 p.2 t
abbrev jX (p:List AV × List (Nat × Rs) × AV × List (Nat × Rs)) (r:List (Nat × Nat)) (t:T):T:= .callx p.1 p.2.1 r p.2.2.1 p.2.2.2 t
theorem yq {p:Prop} [Decidable p] (h:decide p=true):p:=of_decide_eq_true h
theorem nq {p:Prop} [Decidable p] (h:decide p=false): ¬p:=of_decide_eq_false h
abbrev Em {α:Type} (enc:α→List bL) (l:List α) (i:Nat) (P:α→Prop):Prop:=l.map enc=l.map enc∧i<l.length∧ ∀x,l[i]? =some x→P x
abbrev Lm {α:Type} (enc:α→List bL) (l:List α):Prop:=(l.map enc).length=l.length
def iU (b:Bool):List bL:=[.bool b]
def aLt (s:ByteArray):Prop:=s.size≤maxLen
theorem aPl {A:Nat→Prop} {w:World} {s:ByteArray}:gM A w (.str s) (.string s):=by unfold gM;rfl
theorem rdI {w:World} {c:Value} {n:Int} (h:aLR w [c] n):gM (Lv w) w (.int .i64 n) c:=by
 have e:=h.1
 simp at e
 subst e;exact rdV_int
theorem rdS {w:World} {c:Value} {s:ByteArray} (h:aQL w [c] s):gM (Lv w) w (.str s) c:=by
 have e:=h.1
 simp at e
 subst e;exact aPl
theorem hJ {n:Nat} {m:Int} (h: ¬aQ n m<0):(n:Int)≤m:=by
 unfold aQ at h
 split at h
 ·assumption
 ·omega
theorem iS {n:Nat} {m:Int} (h:aQ n m<0): ¬(n:Int)≤m:=by
 unfold aQ at h
 split at h
 ·omega
 ·assumption
theorem lP {α:Type} {l:List α} {k:Nat} {x z:α} (h:l[k]? =some x):(l.take k++List.replicate (l.length - k) z).set k x=l.take (k+1)++List.replicate (l.length - (k+1)) z:=by
 have hk:k<l.length:=(List.getElem?_eq_some_iff.1 h).1
 rw [show l.length - k=(l.length - (k+1))+1 by omega,List.replicate_succ,List.set_append_right _ _ (by simp;omega),cA h]
 simp [show k - min k l.length=0 by omega]
theorem oL {α:Type} {l:List α} {k:Nat} {z:α} (h:k≤l.length):(l.take k++List.replicate (l.length - k) z).length=l.length:=by simp;omega
theorem lQ {α:Type} {l:List α} {k:Nat} {z:α} (h:k≤l.length) (h' : ¬k<l.length):l.take k++List.replicate (l.length - k) z=l:=by
 rw [show k=l.length by omega];simp
theorem iA {α:Type} {l:List α} {i:Nat} {x y:α} (h:(l.set i y)[i]? =some x):x=y:=by
 rw [List.getElem?_set_self'] at h
 cases hl:l[i]? with
 | none=>simp [hl] at h
 | some z=>simp [hl] at h;exact h.symm
theorem cC {α:Type} {l:List α} {k:Nat} (h:k<l.length): ∃x,l[k]? =some x:=⟨_,List.getElem?_eq_getElem h⟩
def aE (l:List Int):List bL:=[.sl 3 1 (l.map intD)]
def aC3 (l:List Int):Prop:= ∀x∈l,Fits x
def bX (l:List Int):Nat:=l.length
theorem aGi (l:List Int):l.length≤bX l:=Nat.le_refl _
def aRE (l:List (List Int)):List bL:=[.sl 32 1 (l.map aE)]
def aES (l:List (List Int)):Prop:= ∀x∈l,aC3 x
def cM (l:List (List Int)):Nat:=vK bX l
theorem fL (l:List (List Int)):l.length≤cM l:=pW _ l
theorem pP {l:List (List Int)} {k:Nat} {y:List Int} (h:l[k]? =some y):bX y≤cM l:=pX _ h
structure aR where
 name:ByteArray
 arity:Int
 rows:List (List Int)
 deriving DecidableEq
def aP (x:aR):List bL:=[.str x.name,.int .i64 x.arity,.sl 32 1 (x.rows.map aE)]
def aKD (x:aR):Prop:=aLt x.name∧Fits x.arity∧aES x.rows
def eN (x:aR):Nat:=ByteArray.size x.name+cM x.rows
def fT:aR:=⟨ByteArray.empty,(0:Int),[]⟩
def aPm (l:List aR):List bL:=[.sl 162 3 (l.map aP)]
def aD3 (l:List aR):Prop:= ∀x∈l,aKD x
def gO (l:List aR):Nat:=vK eN l
theorem aC4 (l:List aR):l.length≤gO l:=pW _ l
theorem aAD {l:List aR} {k:Nat} {y:aR} (h:l[k]? =some y):eN y≤gO l:=pX _ h
structure aV where
 tables:List aR
 deriving DecidableEq
def aLu (x:aV):List bL:=[.sl 162 3 (x.tables.map aP)]
def aCA (x:aV):Prop:=aD3 x.tables
def bF (x:aV):Nat:=gO x.tables
structure bR where
 name:ByteArray
 vars:List Int
 deriving DecidableEq
def bC (x:bR):List bL:=[.str x.name,.sl 3 1 (x.vars.map intD)]
def aNr (x:bR):Prop:=aLt x.name∧aC3 x.vars
def fY (x:bR):Nat:=ByteArray.size x.name+bX x.vars
def pB:bR:=⟨ByteArray.empty,[]⟩
def aRF (l:List bR):List bL:=[.sl 131 2 (l.map bC)]
def aHb (l:List bR):Prop:= ∀x∈l,aNr x
def jF (l:List bR):Nat:=vK fY l
theorem aET (l:List bR):l.length≤jF l:=pW _ l
theorem aCB {l:List bR} {k:Nat} {y:bR} (h:l[k]? =some y):fY y≤jF l:=pX _ h
structure QueryD where
 variableCount:Int
 atoms:List bR
 deriving DecidableEq
def aRG (x:QueryD):List bL:=[.int .i64 x.variableCount,.sl 131 2 (x.atoms.map bC)]
def aKE (x:QueryD):Prop:=Fits x.variableCount∧aHb x.atoms
def jY (x:QueryD):Nat:=jF x.atoms
structure aG where
 columns:List Int
 values:List (List Int)
 counts:List Int
 deriving DecidableEq
def aA (x:aG):List bL:=[.sl 3 1 (x.columns.map intD),.sl 32 1 (x.values.map aE),.sl 3 1 (x.counts.map intD)]
def wJ (x:aG):Prop:=aC3 x.columns∧aES x.values∧aC3 x.counts
def bH (x:aG):Nat:=bX x.columns+cM x.values+bX x.counts
def eH:aG:=⟨[],[],[]⟩
def aHc (l:List aG):List bL:=[.sl 218 3 (l.map aA)]
def pE (l:List aG):Prop:= ∀x∈l,wJ x
def cQ (l:List aG):Nat:=vK bH l
theorem fU (l:List aG):l.length≤cQ l:=pW _ l
theorem gE {l:List aG} {k:Nat} {y:aG} (h:l[k]? =some y):bH y≤cQ l:=pX _ h
structure aB where
 name:ByteArray
 arity:Int
 rowCount:Int
 groups:List aG
 deriving DecidableEq
def aC (x:aB):List bL:=[.str x.name,.int .i64 x.arity,.int .i64 x.rowCount,.sl 218 3 (x.groups.map aA)]
def wK (x:aB):Prop:=aLt x.name∧Fits x.arity∧Fits x.rowCount∧pE x.groups
def aW (x:aB):Nat:=ByteArray.size x.name+cQ x.groups
def dN:aB:=⟨ByteArray.empty,(0:Int),(0:Int),[]⟩
def aHd (l:List aB):List bL:=[.sl 121 4 (l.map aC)]
def pF (l:List aB):Prop:= ∀x∈l,wK x
def cX (l:List aB):Nat:=vK aW l
theorem sP (l:List aB):l.length≤cX l:=pW _ l
theorem jN {l:List aB} {k:Nat} {y:aB} (h:l[k]? =some y):aW y≤cX l:=pX _ h
structure bS where
 version:Int
 tables:List aB
 deriving DecidableEq
def aKF (x:bS):List bL:=[.int .i64 x.version,.sl 121 4 (x.tables.map aC)]
def aAE (x:bS):Prop:=Fits x.version∧pF x.tables
def bM (x:bS):Nat:=cX x.tables
def aEU:bS:=⟨(0:Int),[]⟩
structure aN where
 name:ByteArray
 src:List Int
 dst:Int
 deriving DecidableEq
def aJ (x:aN):List bL:=[.str x.name,.sl 3 1 (x.src.map intD),.int .i64 x.dst]
def wL (x:aN):Prop:=aLt x.name∧aC3 x.src∧Fits x.dst
def bY (x:aN):Nat:=ByteArray.size x.name+bX x.src
def eW:aN:=⟨ByteArray.empty,[],(0:Int)⟩
def aHe (l:List aN):List bL:=[.sl 168 3 (l.map aJ)]
def pG (l:List aN):Prop:= ∀x∈l,wL x
def bW (l:List aN):Nat:=vK bY l
theorem sQ (l:List aN):l.length≤bW l:=pW _ l
theorem aDM {l:List aN} {k:Nat} {y:aN} (h:l[k]? =some y):bY y≤bW l:=pX _ h
structure aL where
 name:ByteArray
 column:Int
 into:ByteArray
 intoColumn:Int
 deriving DecidableEq
def aM (x:aL):List bL:=[.str x.name,.int .i64 x.column,.str x.into,.int .i64 x.intoColumn]
def aAF (x:aL):Prop:=aLt x.name∧Fits x.column∧aLt x.into∧Fits x.intoColumn
def cH (x:aL):Nat:=ByteArray.size x.name+ByteArray.size x.into
def eV:aL:=⟨ByteArray.empty,(0:Int),ByteArray.empty,(0:Int)⟩
def aIk (l:List aL):List bL:=[.sl 170 4 (l.map aM)]
def rK (l:List aL):Prop:= ∀x∈l,aAF x
def cV (l:List aL):Nat:=vK cH l
theorem iC (l:List aL):l.length≤cV l:=pW _ l
theorem aEV {l:List aL} {k:Nat} {y:aL} (h:l[k]? =some y):cH y≤cV l:=pX _ h
structure StoreD where
 database:aV
 catalogue:bS
 dependencies:List aN
 inclusions:List aL
 deriving DecidableEq
def aRH (x:StoreD):List bL:=[.sl 162 3 (x.database.tables.map aP),.int .i64 x.catalogue.version,.sl 121 4 (x.catalogue.tables.map aC),.sl 168 3 (x.dependencies.map aJ),.sl 170 4 (x.inclusions.map aM)]
def aKG (x:StoreD):Prop:=aCA x.database∧aAE x.catalogue∧pG x.dependencies∧rK x.inclusions
def eD (x:StoreD):Nat:=bF x.database+bM x.catalogue+bW x.dependencies+cV x.inclusions
structure aF where
 src:Int
 dst:Int
 bits:Int
 deriving DecidableEq
def aD (x:aF):List bL:=[.int .i64 x.src,.int .i64 x.dst,.int .i64 x.bits]
def jO (x:aF):Nat:=0
def aDN:aF:=⟨(0:Int),(0:Int),(0:Int)⟩
def gT (l:List aF):Nat:=l.length
theorem jZ (s t:ByteArray):(s.toList==t.toList)=decide (s=t):=by
 rw [ByteArray.toList_eq,ByteArray.toList_eq]
 by_cases h:s=t
 ·simp [h]
 ·have: ¬s.data.toList=t.data.toList:=fun e=>h (by cases s;cases t;simp at e;simp [e])
  simp only [h,decide_false,beq_eq_false_iff_ne]
  exact this
theorem lR {α:Type} {l m:List α} {k:Nat} {x:α} (h:l[k]? =some x) (h' :m[k]? =some x) (e:l.take k=m.take k):l.take (k+1)=m.take (k+1):=by rw [cA h,cA h',e]
theorem uS {α:Type} {l m:List α} {k:Nat} {x y:α} (h:l[k]? =some x) (h' :m[k]? =some y) (e: ¬x=y): ¬l=m:=by
 rintro rfl
 rw [h] at h'
 exact e (by injection h')
theorem nB {α:Type} {l m:List α} (h: ¬(l.length:Int)=m.length): ¬l=m:=fun e=>h (by rw [e])
theorem fP {α:Type} {l m:List α} {k:Nat} (hk:l.length≤k) (hl:l.length=m.length) (e:l.take k=m.take k):l=m:=by rwa [List.take_of_length_le hk,List.take_of_length_le (by omega)] at e
abbrev pQ (l:List Int) (m:List Int):Prop:=dG Tryz.prog 267 [.one (.sl 3 1 (l.map intD)),.one (.sl 3 1 (m.map intD))] (vB (decide (l=m))) []
theorem aBD (l m:List Int):pQ l m:=by
 refine aY bK aU Tryz.func267 (by kernel_rfl) (.len l.length<| .len m.length<| .br (.fin []) (.len l.length<| .loop Nat (Q1 Nat) [5,13,14,15,16,17,18,19,20,21,22,23,24,25] [] (fun k=>[(13,vI (k:Int))]) (fun k=>[]) (fun k=>k≤l.length∧l.take k=m.take k) (fun k=>l.length - k) (fun k=> .br (.elem _ intD l (fun e18=> .elem _ intD m (fun e22=> .br (.fin []) (.back [])))) (.fin [])))) (p:=(l.map intD).length≤9223372036854775807→(m.map intD).length≤9223372036854775807→Lm intD l∧(Lm intD m∧(((!(decide (((l.length:Nat):Int)=((m.length:Nat):Int))))=true→(false)=(decide (l=m))∧True)∧((!(decide (((l.length:Nat):Int)=((m.length:Nat):Int))))=false→Lm intD l∧((∃(k:Nat),(0:Int)=(k:Int)∧k≤l.length∧l.take k=m.take k)∧ ∀(k:Nat),(k≤l.length∧l.take k=m.take k)→((decide ((k:Int)<((l.length:Nat):Int)))=true→0≤(k:Int)∧Em intD l k fun e18=>0≤(k:Int)∧Em intD m k fun e22=>((!(decide (e18=e22)))=true→(false)=(decide (l=m))∧True)∧((!(decide (e18=e22)))=false→dB ((k:Int)+(1:Int))∧ ∃(k' :Nat),((k:Int)+(1:Int))=(k' :Int)∧(k' ≤l.length∧l.take k' =m.take k')∧l.length - k' <l.length - k))∧((decide ((k:Int)<((l.length:Nat):Int)))=false→(true)=(decide (l=m))∧True)))))) (by kernel_rfl) ?_
 intro n0 n1
 simp only [List.length_map] at n0 n1
 refine ⟨List.length_map _,List.length_map _,fun c0=>?_,fun c0=>?_⟩
 ·replace c0:=nq (nt c0)
  refine ⟨?_,trivial⟩
  ·first | (simp [uS hx hy hxy];done) | (simp [nB c0];done) | (simp [fP (by omega) hl ht];done)
 ·replace c0:=yq (nf c0)
  have hl:l.length=m.length:=by omega
  refine ⟨List.length_map _,⟨0,rfl,Nat.zero_le _,rfl⟩,fun k ⟨hk,ht⟩=>?_⟩
  refine ⟨fun c1=>?_,fun c1=>?_⟩
  ·replace c1:=yq c1
   obtain ⟨x,hx⟩:=cC (l:=l) (k:=k) (by omega)
   obtain ⟨y,hy⟩:=cC (l:=m) (k:=k) (by omega)
   refine ⟨by omega,rfl,by omega,fun e18 h18=>?_⟩
   obtain rfl:=(bA hx h18).symm
   refine ⟨by omega,rfl,by omega,fun e22 h22=>?_⟩
   obtain rfl:=(bA hy h22).symm
   refine ⟨fun c2=>?_,fun c2=>?_⟩
   ·replace c2:=nq (nt c2)
    have hxy: ¬x=y:=by simpa using c2
    refine ⟨?_,trivial⟩
    ·first | (simp [uS hx hy hxy];done) | (simp [nB c0];done) | (simp [fP (by omega) hl ht];done)
   ·replace c2:=yq (nf c2)
    have hxy:x=y:=by simpa using c2
    refine ⟨⟨by omega,by omega⟩,?_⟩
    exact ⟨k+1,rfl,⟨by omega,lR hx (by rw [hy,hxy]) ht⟩,by omega⟩
  ·replace c1:=nq c1
   refine ⟨?_,trivial⟩
   ·first | (simp [uS hx hy hxy];done) | (simp [nB c0];done) | (simp [fP (by omega) hl ht];done)
abbrev aNs (l:List Int) (m:List Int):Prop:=dG Tryz.prog 299 [.one (.sl 3 1 (l.map intD)),.one (.sl 3 1 (m.map intD))] (vB (decide (l=m))) []
theorem aRu (l m:List Int):aNs l m:=by
 refine aY bK aU Tryz.func299 (by kernel_rfl) (.call (vB (decide (l=m))) []<| .fin []) (p:=(l.map intD).length≤9223372036854775807→(m.map intD).length≤9223372036854775807→pQ l m∧(decide (l=m))=(decide (l=m))∧True) (by kernel_rfl) ?_
 intro n0 n1
 simp only [List.length_map] at n0 n1
 refine ⟨aBD _ _,?_,trivial⟩
 ·rfl
abbrev aC5 (l:List (List Int)) (m:List (List Int)):Prop:=dG Tryz.prog 298 [.one (.sl 32 1 (l.map aE)),.one (.sl 32 1 (m.map aE)),.fn 299 []] (vB (decide (l=m))) []
theorem aLv (l m:List (List Int)):aC5 l m:=by
 refine aY bK aU Tryz.func298 (by kernel_rfl) (.len l.length<| .len m.length<| .br (.fin []) (.len l.length<| .loop Nat (Q1 Nat) [7,8,9,17,18,19,20,21,22,23,24,25,26,27,28,29,30,31] [] (fun k=>[(17,vI (k:Int))]) (fun k=>[]) (fun k=>k≤l.length∧l.take k=m.take k) (fun k=>l.length - k) (fun k=> .br (.elem _ aE l (fun e20=> .elem _ aE m (fun e24=> .call (vB (decide (e20=e24))) []<| .br (.fin []) (.back [])))) (.fin [])))) (p:=(l.map aE).length≤9223372036854775807→(m.map aE).length≤9223372036854775807→Lm aE l∧(Lm aE m∧(((!(decide (((l.length:Nat):Int)=((m.length:Nat):Int))))=true→(false)=(decide (l=m))∧True)∧((!(decide (((l.length:Nat):Int)=((m.length:Nat):Int))))=false→Lm aE l∧((∃(k:Nat),(0:Int)=(k:Int)∧k≤l.length∧l.take k=m.take k)∧ ∀(k:Nat),(k≤l.length∧l.take k=m.take k)→((decide ((k:Int)<((l.length:Nat):Int)))=true→0≤(k:Int)∧Em aE l k fun e20=>0≤(k:Int)∧Em aE m k fun e24=>aNs e20 e24∧(((!(decide (e20=e24)))=true→(false)=(decide (l=m))∧True)∧((!(decide (e20=e24)))=false→dB ((k:Int)+(1:Int))∧ ∃(k' :Nat),((k:Int)+(1:Int))=(k' :Int)∧(k' ≤l.length∧l.take k' =m.take k')∧l.length - k' <l.length - k)))∧((decide ((k:Int)<((l.length:Nat):Int)))=false→(true)=(decide (l=m))∧True)))))) (by kernel_rfl) ?_
 intro n0 n1
 simp only [List.length_map] at n0 n1
 refine ⟨List.length_map _,List.length_map _,fun c0=>?_,fun c0=>?_⟩
 ·replace c0:=nq (nt c0)
  refine ⟨?_,trivial⟩
  ·first | (simp [uS hx hy hxy];done) | (simp [nB c0];done) | (simp [fP (by omega) hl ht];done)
 ·replace c0:=yq (nf c0)
  have hl:l.length=m.length:=by omega
  refine ⟨List.length_map _,⟨0,rfl,Nat.zero_le _,rfl⟩,fun k ⟨hk,ht⟩=>?_⟩
  refine ⟨fun c1=>?_,fun c1=>?_⟩
  ·replace c1:=yq c1
   obtain ⟨x,hx⟩:=cC (l:=l) (k:=k) (by omega)
   obtain ⟨y,hy⟩:=cC (l:=m) (k:=k) (by omega)
   refine ⟨by omega,rfl,by omega,fun e20 h20=>?_⟩
   obtain rfl:=(bA hx h20).symm
   refine ⟨by omega,rfl,by omega,fun e24 h24=>?_⟩
   obtain rfl:=(bA hy h24).symm
   refine ⟨aRu _ _,fun c2=>?_,fun c2=>?_⟩
   ·replace c2:=nq (nt c2)
    have hxy: ¬x=y:=by simpa using c2
    refine ⟨?_,trivial⟩
    ·first | (simp [uS hx hy hxy];done) | (simp [nB c0];done) | (simp [fP (by omega) hl ht];done)
   ·replace c2:=yq (nf c2)
    have hxy:x=y:=by simpa using c2
    refine ⟨⟨by omega,by omega⟩,?_⟩
    exact ⟨k+1,rfl,⟨by omega,lR hx (by rw [hy,hxy]) ht⟩,by omega⟩
  ·replace c1:=nq c1
   refine ⟨?_,trivial⟩
   ·first | (simp [uS hx hy hxy];done) | (simp [nB c0];done) | (simp [fP (by omega) hl ht];done)
abbrev zG (l:List (List Int)) (m:List (List Int)):Prop:=dG Tryz.prog 283 [.one (.sl 32 1 (l.map aE)),.one (.sl 32 1 (m.map aE))] (vB (decide (l=m))) []
theorem aIl (l m:List (List Int)):zG l m:=by
 refine aY bK aU Tryz.func283 (by kernel_rfl) (.call (vB (decide (l=m))) []<| .fin []) (p:=(l.map aE).length≤9223372036854775807→(m.map aE).length≤9223372036854775807→aC5 l m∧(decide (l=m))=(decide (l=m))∧True) (by kernel_rfl) ?_
 intro n0 n1
 simp only [List.length_map] at n0 n1
 refine ⟨aLv _ _,?_,trivial⟩
 ·rfl
theorem iY (a b:aG):decide (a=b)=(decide (a.columns=b.columns)&&(decide (a.values=b.values)&&decide (a.counts=b.counts))):=by
 obtain ⟨a0,a1,a2⟩:=a
 obtain ⟨b0,b1,b2⟩:=b
 simp [Bool.and_assoc]
abbrev aEW (a:aG) (b:aG):Prop:=dG Tryz.prog 263 [.agg [.sl 3 1 (a.columns.map intD),.sl 32 1 (a.values.map aE),.sl 3 1 (a.counts.map intD)],.agg [.sl 3 1 (b.columns.map intD),.sl 32 1 (b.values.map aE),.sl 3 1 (b.counts.map intD)]] (vB (decide (a=b))) []
theorem aNt (a b:aG):aEW a b:=by
 refine aY bK aU Tryz.func263 (by kernel_rfl) (.call (vB (decide (a.columns=b.columns))) []<| .br (.call (vB (decide (a.values=b.values))) []<| .lit<| .br (.call (vB (decide (a.counts=b.counts))) []<| .fin []) (.fin [])) (.fin [])) (p:=(a.columns.map intD).length≤9223372036854775807→(a.values.map aE).length≤9223372036854775807→(a.counts.map intD).length≤9223372036854775807→(b.columns.map intD).length≤9223372036854775807→(b.values.map aE).length≤9223372036854775807→(b.counts.map intD).length≤9223372036854775807→pQ a.columns b.columns∧(((decide (a.columns=b.columns))=true→zG a.values b.values∧(((decide (a.values=b.values))=true→pQ a.counts b.counts∧(decide (a.counts=b.counts))=(decide (a=b))∧True)∧((decide (a.values=b.values))=false→(false)=(decide (a=b))∧True)))∧((decide (a.columns=b.columns))=false→(false)=(decide (a=b))∧True))) (by kernel_rfl) ?_
 intro n0 n1 n2 n3 n4 n5
 simp only [List.length_map] at n0 n1 n2 n3 n4 n5
 refine ⟨aBD _ _,fun g10=>?_,fun g10=>?_⟩
 ·replace g10:=yq g10
  refine ⟨aIl _ _,fun g17=>?_,fun g17=>?_⟩
  ·replace g17:=yq g17
   refine ⟨aBD _ _,?_,trivial⟩
   ·first | (rw [iY];done) | (rw [iY];simp_all [jZ];done)
  ·replace g17:=nq g17
   refine ⟨?_,trivial⟩
   ·first | (rw [iY];done) | (rw [iY];simp_all [jZ];done)
 ·replace g10:=nq g10
  refine ⟨?_,trivial⟩
  ·first | (rw [iY];done) | (rw [iY];simp_all [jZ];done)
abbrev rL (l:List aG) (m:List aG):Prop:=dG Tryz.prog 262 [.one (.sl 218 3 (l.map aA)),.one (.sl 218 3 (m.map aA)),.fn 263 []] (vB (decide (l=m))) []
theorem aDO (l m:List aG):rL l m:=by
 refine aY bK aU Tryz.func262 (by kernel_rfl) (.len l.length<| .len m.length<| .br (.fin []) (.len l.length<| .loop Nat (Q1 Nat) [7,8,9,17,18,19,20,21,22,23,24,25,26,27,28,29,30,31] [800,900] (fun k=>[(17,vI (k:Int))]) (fun k=>[]) (fun k=>k≤l.length∧l.take k=m.take k) (fun k=>l.length - k) (fun k=> .br (.elem _ aA l (fun e20=> .elem _ aA m (fun e24=> .call (vB (decide (e20=e24))) []<| .br (.fin []) (.back [])))) (.fin [])))) (p:=(l.map aA).length≤9223372036854775807→(m.map aA).length≤9223372036854775807→Lm aA l∧(Lm aA m∧(((!(decide (((l.length:Nat):Int)=((m.length:Nat):Int))))=true→(false)=(decide (l=m))∧True)∧((!(decide (((l.length:Nat):Int)=((m.length:Nat):Int))))=false→Lm aA l∧((∃(k:Nat),(0:Int)=(k:Int)∧k≤l.length∧l.take k=m.take k)∧ ∀(k:Nat),(k≤l.length∧l.take k=m.take k)→((decide ((k:Int)<((l.length:Nat):Int)))=true→0≤(k:Int)∧Em aA l k fun e20=>0≤(k:Int)∧Em aA m k fun e24=>aEW e20 e24∧(((!(decide (e20=e24)))=true→(false)=(decide (l=m))∧True)∧((!(decide (e20=e24)))=false→dB ((k:Int)+(1:Int))∧ ∃(k' :Nat),((k:Int)+(1:Int))=(k' :Int)∧(k' ≤l.length∧l.take k' =m.take k')∧l.length - k' <l.length - k)))∧((decide ((k:Int)<((l.length:Nat):Int)))=false→(true)=(decide (l=m))∧True)))))) (by kernel_rfl) ?_
 intro n0 n1
 simp only [List.length_map] at n0 n1
 refine ⟨List.length_map _,List.length_map _,fun c0=>?_,fun c0=>?_⟩
 ·replace c0:=nq (nt c0)
  refine ⟨?_,trivial⟩
  ·first | (simp [uS hx hy hxy];done) | (simp [nB c0];done) | (simp [fP (by omega) hl ht];done)
 ·replace c0:=yq (nf c0)
  have hl:l.length=m.length:=by omega
  refine ⟨List.length_map _,⟨0,rfl,Nat.zero_le _,rfl⟩,fun k ⟨hk,ht⟩=>?_⟩
  refine ⟨fun c1=>?_,fun c1=>?_⟩
  ·replace c1:=yq c1
   obtain ⟨x,hx⟩:=cC (l:=l) (k:=k) (by omega)
   obtain ⟨y,hy⟩:=cC (l:=m) (k:=k) (by omega)
   refine ⟨by omega,rfl,by omega,fun e20 h20=>?_⟩
   obtain rfl:=(bA hx h20).symm
   refine ⟨by omega,rfl,by omega,fun e24 h24=>?_⟩
   obtain rfl:=(bA hy h24).symm
   refine ⟨aNt _ _,fun c2=>?_,fun c2=>?_⟩
   ·replace c2:=nq (nt c2)
    have hxy: ¬x=y:=by simpa using c2
    refine ⟨?_,trivial⟩
    ·first | (simp [uS hx hy hxy];done) | (simp [nB c0];done) | (simp [fP (by omega) hl ht];done)
   ·replace c2:=yq (nf c2)
    have hxy:x=y:=by simpa using c2
    refine ⟨⟨by omega,by omega⟩,?_⟩
    exact ⟨k+1,rfl,⟨by omega,lR hx (by rw [hy,hxy]) ht⟩,by omega⟩
  ·replace c1:=nq c1
   refine ⟨?_,trivial⟩
   ·first | (simp [uS hx hy hxy];done) | (simp [nB c0];done) | (simp [fP (by omega) hl ht];done)
theorem dC (a b:aB):decide (a=b)=(decide (a.name=b.name)&&(decide (a.arity=b.arity)&&(decide (a.rowCount=b.rowCount)&&decide (a.groups=b.groups)))):=by
 obtain ⟨a0,a1,a2,a3⟩:=a
 obtain ⟨b0,b1,b2,b3⟩:=b
 simp [Bool.and_assoc]
abbrev mG (a:aB) (b:aB):Prop:=dG Tryz.prog 222 [.agg [.str a.name,.int .i64 a.arity,.int .i64 a.rowCount,.sl 218 3 (a.groups.map aA)],.agg [.str b.name,.int .i64 b.arity,.int .i64 b.rowCount,.sl 218 3 (b.groups.map aA)]] (vB (decide (a=b))) []
theorem tU (a b:aB):mG a b:=by
 refine aY bK aU Tryz.func222 (by kernel_rfl) (.br (.lit<| .lit<| .lit<| .lit<| .lit<| .br (.lit<| .lit<| .lit<| .lit<| .lit<| .br (.call (vB (decide (a.groups=b.groups))) []<| .fin []) (.fin [])) (.fin [])) (.fin [])) (p:=(a.groups.map aA).length≤9223372036854775807→(b.groups.map aA).length≤9223372036854775807→((a.name.toList==b.name.toList)=true→((decide (a.arity=b.arity))=true→((decide (a.rowCount=b.rowCount))=true→rL a.groups b.groups∧(decide (a.groups=b.groups))=(decide (a=b))∧True)∧((decide (a.rowCount=b.rowCount))=false→(false)=(decide (a=b))∧True))∧((decide (a.arity=b.arity))=false→(false)=(decide (a=b))∧True))∧((a.name.toList==b.name.toList)=false→(false)=(decide (a=b))∧True)) (by kernel_rfl) ?_
 intro n0 n1
 simp only [List.length_map] at n0 n1
 refine ⟨fun g10=>?_,fun g10=>?_⟩
 ·refine ⟨fun g17=>?_,fun g17=>?_⟩
  ·replace g17:=yq g17
   refine ⟨fun g24=>?_,fun g24=>?_⟩
   ·replace g24:=yq g24
    refine ⟨aDO _ _,?_,trivial⟩
    ·first | (rw [dC];done) | (rw [dC];simp_all [jZ];done)
   ·replace g24:=nq g24
    refine ⟨?_,trivial⟩
    ·first | (rw [dC];done) | (rw [dC];simp_all [jZ];done)
  ·replace g17:=nq g17
   refine ⟨?_,trivial⟩
   ·first | (rw [dC];done) | (rw [dC];simp_all [jZ];done)
 ·refine ⟨?_,trivial⟩
  ·first | (rw [dC];done) | (rw [dC];simp_all [jZ];done)
abbrev rM (l:List aB) (m:List aB):Prop:=dG Tryz.prog 221 [.one (.sl 121 4 (l.map aC)),.one (.sl 121 4 (m.map aC)),.fn 222 []] (vB (decide (l=m))) []
theorem aDP (l m:List aB):rM l m:=by
 refine aY bK aU Tryz.func221 (by kernel_rfl) (.len l.length<| .len m.length<| .br (.fin []) (.len l.length<| .loop Nat (Q1 Nat) [7,8,9,17,18,19,20,21,22,23,24,25,26,27,28,29,30,31] [800,900] (fun k=>[(17,vI (k:Int))]) (fun k=>[]) (fun k=>k≤l.length∧l.take k=m.take k) (fun k=>l.length - k) (fun k=> .br (.elem _ aC l (fun e20=> .elem _ aC m (fun e24=> .call (vB (decide (e20=e24))) []<| .br (.fin []) (.back [])))) (.fin [])))) (p:=(l.map aC).length≤9223372036854775807→(m.map aC).length≤9223372036854775807→Lm aC l∧(Lm aC m∧(((!(decide (((l.length:Nat):Int)=((m.length:Nat):Int))))=true→(false)=(decide (l=m))∧True)∧((!(decide (((l.length:Nat):Int)=((m.length:Nat):Int))))=false→Lm aC l∧((∃(k:Nat),(0:Int)=(k:Int)∧k≤l.length∧l.take k=m.take k)∧ ∀(k:Nat),(k≤l.length∧l.take k=m.take k)→((decide ((k:Int)<((l.length:Nat):Int)))=true→0≤(k:Int)∧Em aC l k fun e20=>0≤(k:Int)∧Em aC m k fun e24=>mG e20 e24∧(((!(decide (e20=e24)))=true→(false)=(decide (l=m))∧True)∧((!(decide (e20=e24)))=false→dB ((k:Int)+(1:Int))∧ ∃(k' :Nat),((k:Int)+(1:Int))=(k' :Int)∧(k' ≤l.length∧l.take k' =m.take k')∧l.length - k' <l.length - k)))∧((decide ((k:Int)<((l.length:Nat):Int)))=false→(true)=(decide (l=m))∧True)))))) (by kernel_rfl) ?_
 intro n0 n1
 simp only [List.length_map] at n0 n1
 refine ⟨List.length_map _,List.length_map _,fun c0=>?_,fun c0=>?_⟩
 ·replace c0:=nq (nt c0)
  refine ⟨?_,trivial⟩
  ·first | (simp [uS hx hy hxy];done) | (simp [nB c0];done) | (simp [fP (by omega) hl ht];done)
 ·replace c0:=yq (nf c0)
  have hl:l.length=m.length:=by omega
  refine ⟨List.length_map _,⟨0,rfl,Nat.zero_le _,rfl⟩,fun k ⟨hk,ht⟩=>?_⟩
  refine ⟨fun c1=>?_,fun c1=>?_⟩
  ·replace c1:=yq c1
   obtain ⟨x,hx⟩:=cC (l:=l) (k:=k) (by omega)
   obtain ⟨y,hy⟩:=cC (l:=m) (k:=k) (by omega)
   refine ⟨by omega,rfl,by omega,fun e20 h20=>?_⟩
   obtain rfl:=(bA hx h20).symm
   refine ⟨by omega,rfl,by omega,fun e24 h24=>?_⟩
   obtain rfl:=(bA hy h24).symm
   refine ⟨tU _ _,fun c2=>?_,fun c2=>?_⟩
   ·replace c2:=nq (nt c2)
    have hxy: ¬x=y:=by simpa using c2
    refine ⟨?_,trivial⟩
    ·first | (simp [uS hx hy hxy];done) | (simp [nB c0];done) | (simp [fP (by omega) hl ht];done)
   ·replace c2:=yq (nf c2)
    have hxy:x=y:=by simpa using c2
    refine ⟨⟨by omega,by omega⟩,?_⟩
    exact ⟨k+1,rfl,⟨by omega,lR hx (by rw [hy,hxy]) ht⟩,by omega⟩
  ·replace c1:=nq c1
   refine ⟨?_,trivial⟩
   ·first | (simp [uS hx hy hxy];done) | (simp [nB c0];done) | (simp [fP (by omega) hl ht];done)
theorem gP (a b:bS):decide (a=b)=(decide (a.version=b.version)&&decide (a.tables=b.tables)):=by
 obtain ⟨a0,a1⟩:=a
 obtain ⟨b0,b1⟩:=b
 simp [Bool.and_assoc]
abbrev aBE (a:bS) (b:bS):Prop:=dG Tryz.prog 147 [.agg [.int .i64 a.version,.sl 121 4 (a.tables.map aC)],.agg [.int .i64 b.version,.sl 121 4 (b.tables.map aC)]] (vB (decide (a=b))) []
theorem aKH (a b:bS):aBE a b:=by
 refine aY bK aU Tryz.func147 (by kernel_rfl) (.br (.call (vB (decide (a.tables=b.tables))) []<| .fin []) (.fin [])) (p:=(a.tables.map aC).length≤9223372036854775807→(b.tables.map aC).length≤9223372036854775807→((decide (a.version=b.version))=true→rM a.tables b.tables∧(decide (a.tables=b.tables))=(decide (a=b))∧True)∧((decide (a.version=b.version))=false→(false)=(decide (a=b))∧True)) (by kernel_rfl) ?_
 intro n0 n1
 simp only [List.length_map] at n0 n1
 refine ⟨fun g10=>?_,fun g10=>?_⟩
 ·replace g10:=yq g10
  refine ⟨aDP _ _,?_,trivial⟩
  ·first | (rw [gP];done) | (rw [gP];simp_all [jZ];done)
 ·replace g10:=nq g10
  refine ⟨?_,trivial⟩
  ·first | (rw [gP];done) | (rw [gP];simp_all [jZ];done)
end Go.Proofs.YtokkjaflmcjlhaaGreat
