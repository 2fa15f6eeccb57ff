/-
  Contracts and plain laws, joined: part 4.
-/
import Derived.Test.YtokkjaflmcjlhaaGreatQU2
import Derived.Laws.Strings
namespace Go.Proofs.YtokkjaflmcjlhaaGreat
open Go.ChangeShapes Go.WideShapes Go.ChangeAt Go.RowKit
set_option linter.unusedVariables false
set_option linter.unusedSimpArgs false
set_option maxRecDepth 100000
set_option maxHeartbeats 4000000
def tb:Tb:=⟨[(2,(false,1,8,.int .i64 0)),(3,(false,1,8,.int .i64 0)),(4,(false,1,1,.bool false)),(5,(false,1,1,.int .u8 0)),(6,(false,1,1,.int .u8 0)),(7,(true,4,24,.agg #[.int .i64 0,.int .i64 0,.bool false,.int .u8 0])),(8,(true,4,24,.agg #[.int .i64 0,.int .i64 0,.bool false,.int .u8 0])),(9,(false,1,16,.string ByteArray.empty)),(10,(false,1,16,.string ByteArray.empty)),(11,(false,1,16,.string ByteArray.empty)),(12,(false,1,8,.int .u64 0)),(13,(true,2,24,.agg #[.string ByteArray.empty,.int .u64 0])),(14,(true,2,24,.agg #[.string ByteArray.empty,.int .u64 0])),(21,(false,1,4,.int .i32 0)),(22,(false,1,24,.slice none 0 0)),(23,(true,1,24,.agg #[.slice none 0 0])),(24,(true,1,24,.agg #[.slice none 0 0])),(25,(false,1,24,.slice none 0 0)),(26,(true,2,32,.agg #[.int .i64 0,.slice none 0 0])),(27,(true,2,32,.agg #[.int .i64 0,.slice none 0 0])),(28,(false,1,24,.slice none 0 0)),(29,(false,1,24,.slice none 0 0)),(30,(true,5,104,.agg #[.slice none 0 0,.int .i64 0,.slice none 0 0,.slice none 0 0,.slice none 0 0])),(31,(true,5,104,.agg #[.slice none 0 0,.int .i64 0,.slice none 0 0,.slice none 0 0,.slice none 0 0])),(32,(false,1,24,.slice none 0 0)),(33,(true,3,48,.agg #[.string ByteArray.empty,.bool false,.slice none 0 0])),(34,(true,3,48,.agg #[.string ByteArray.empty,.bool false,.slice none 0 0])),(37,(false,1,24,.slice none 0 0)),(38,(true,1,24,.agg #[.slice none 0 0])),(39,(true,1,24,.agg #[.slice none 0 0])),(40,(false,1,24,.slice none 0 0)),(41,(true,2,32,.agg #[.int .i64 0,.slice none 0 0])),(42,(true,2,32,.agg #[.int .i64 0,.slice none 0 0])),(43,(false,1,24,.slice none 0 0)),(44,(false,1,24,.slice none 0 0)),(45,(true,5,104,.agg #[.slice none 0 0,.int .i64 0,.slice none 0 0,.slice none 0 0,.slice none 0 0])),(46,(true,5,104,.agg #[.slice none 0 0,.int .i64 0,.slice none 0 0,.slice none 0 0,.slice none 0 0])),(50,(true,3,48,.agg #[.string ByteArray.empty,.bool false,.slice none 0 0])),(57,(false,1,24,.slice none 0 0)),(61,(false,1,24,.slice none 0 0)),(66,(false,1,24,.slice none 0 0)),(67,(true,2,32,.agg #[.int .i64 0,.slice none 0 0])),(68,(true,2,32,.agg #[.int .i64 0,.slice none 0 0])),(71,(false,1,24,.slice none 0 0)),(72,(true,2,32,.agg #[.int .i64 0,.slice none 0 0])),(73,(true,2,32,.agg #[.int .i64 0,.slice none 0 0])),(88,(false,1,24,.slice none 0 0)),(119,(false,1,24,.slice none 0 0)),(120,(true,4,56,.agg #[.string ByteArray.empty,.int .i64 0,.int .i64 0,.slice none 0 0])),(121,(true,4,56,.agg #[.string ByteArray.empty,.int .i64 0,.int .i64 0,.slice none 0 0])),(130,(true,2,40,.agg #[.string ByteArray.empty,.slice none 0 0])),(131,(true,2,40,.agg #[.string ByteArray.empty,.slice none 0 0])),(148,(true,3,24,.agg #[.int .i64 0,.int .i64 0,.int .i64 0])),(149,(true,3,24,.agg #[.int .i64 0,.int .i64 0,.int .i64 0])),(153,(true,3,48,.agg #[.string ByteArray.empty,.slice none 0 0,.int .i64 0])),(154,(true,3,48,.agg #[.string ByteArray.empty,.slice none 0 0,.int .i64 0])),(156,(true,4,48,.agg #[.string ByteArray.empty,.int .i64 0,.string ByteArray.empty,.int .i64 0])),(157,(true,4,48,.agg #[.string ByteArray.empty,.int .i64 0,.string ByteArray.empty,.int .i64 0])),(160,(false,1,24,.slice none 0 0)),(161,(true,3,48,.agg #[.string ByteArray.empty,.int .i64 0,.slice none 0 0])),(162,(true,3,48,.agg #[.string ByteArray.empty,.int .i64 0,.slice none 0 0])),(168,(true,3,48,.agg #[.string ByteArray.empty,.slice none 0 0,.int .i64 0])),(170,(true,4,48,.agg #[.string ByteArray.empty,.int .i64 0,.string ByteArray.empty,.int .i64 0])),(183,(false,1,24,.slice none 0 0)),(185,(true,2,40,.agg #[.string ByteArray.empty,.slice none 0 0])),(202,(true,3,48,.agg #[.string ByteArray.empty,.int .i64 0,.slice none 0 0])),(204,(false,1,24,.slice none 0 0)),(205,(true,4,56,.agg #[.string ByteArray.empty,.int .i64 0,.int .i64 0,.slice none 0 0])),(206,(true,4,56,.agg #[.string ByteArray.empty,.int .i64 0,.int .i64 0,.slice none 0 0])),(217,(true,3,72,.agg #[.slice none 0 0,.slice none 0 0,.slice none 0 0])),(218,(true,3,72,.agg #[.slice none 0 0,.slice none 0 0,.slice none 0 0])),(232,(false,1,24,.slice none 0 0)),(247,(false,1,8,.int .u64 0)),(251,(true,3,72,.agg #[.slice none 0 0,.slice none 0 0,.slice none 0 0])),(255,(false,1,8,.int .i64 0)),(264,(false,1,4,.int .u32 0)),(266,(false,1,8,.int .u64 0)),(274,(false,1,8,.int .u64 0)),(291,(true,0,0,.agg #[])),(292,(true,0,0,.agg #[])),(294,(false,1,1,.int .u8 0)),(295,(false,1,1,.int .u8 0)),(298,(false,1,4,.int .i32 0)),(299,(false,1,4,.int .i32 0))],
 [(22,202),(25,206),(28,154),(29,157),(32,3),(37,162),(40,121),(43,168),(44,170),(57,34),(61,50),(66,185),(71,131),(88,149),(119,218),(160,32),(183,5),(204,251),(232,4)],
 [(7,[(0,(0,2)),(1,(1,3)),(2,(2,4)),(3,(3,6))]),(8,[(0,(0,2)),(1,(1,3)),(2,(2,4)),(3,(3,6))]),(13,[(0,(0,9)),(1,(1,12))]),(14,[(0,(0,9)),(1,(1,12))]),(23,[(0,(0,22))]),(24,[(0,(0,22))]),(26,[(0,(0,3)),(1,(1,25))]),(27,[(0,(0,3)),(1,(1,25))]),(30,[(0,(0,24)),(1,(1,27)),(2,(3,28)),(3,(4,29))]),(31,[(0,(0,24)),(1,(1,27)),(2,(3,28)),(3,(4,29))]),(33,[(0,(0,9)),(1,(1,4)),(2,(2,32))]),(34,[(0,(0,9)),(1,(1,4)),(2,(2,32))]),(38,[(0,(0,37))]),(39,[(0,(0,37))]),(41,[(0,(0,3)),(1,(1,40))]),(42,[(0,(0,3)),(1,(1,40))]),(45,[(0,(0,39)),(1,(1,42)),(2,(3,43)),(3,(4,44))]),(46,[(0,(0,39)),(1,(1,42)),(2,(3,43)),(3,(4,44))]),(50,[(0,(0,9)),(1,(1,4)),(2,(2,32))]),(67,[(0,(0,3)),(1,(1,66))]),(68,[(0,(0,3)),(1,(1,66))]),(72,[(0,(0,3)),(1,(1,71))]),(73,[(0,(0,3)),(1,(1,71))]),(120,[(0,(0,9)),(1,(1,3)),(2,(2,3)),(3,(3,119))]),(121,[(0,(0,9)),(1,(1,3)),(2,(2,3)),(3,(3,119))]),(130,[(0,(0,9)),(1,(1,32))]),(131,[(0,(0,9)),(1,(1,32))]),(148,[(0,(0,3)),(1,(1,3)),(2,(2,3))]),(149,[(0,(0,3)),(1,(1,3)),(2,(2,3))]),(153,[(0,(0,9)),(1,(1,32)),(2,(2,3))]),(154,[(0,(0,9)),(1,(1,32)),(2,(2,3))]),(156,[(0,(0,9)),(1,(1,3)),(2,(2,9)),(3,(3,3))]),(157,[(0,(0,9)),(1,(1,3)),(2,(2,9)),(3,(3,3))]),(161,[(0,(0,9)),(1,(1,3)),(2,(2,160))]),(162,[(0,(0,9)),(1,(1,3)),(2,(2,160))]),(168,[(0,(0,9)),(1,(1,32)),(2,(2,3))]),(170,[(0,(0,9)),(1,(1,3)),(2,(2,9)),(3,(3,3))]),(185,[(0,(0,9)),(1,(1,32))]),(202,[(0,(0,9)),(1,(1,3)),(2,(2,160))]),(205,[(0,(0,9)),(1,(1,3)),(2,(2,3)),(3,(3,204))]),(206,[(0,(0,9)),(1,(1,3)),(2,(2,3)),(3,(3,204))]),(217,[(0,(0,32)),(1,(1,160)),(2,(2,32))]),(218,[(0,(0,32)),(1,(1,160)),(2,(2,32))]),(251,[(0,(0,32)),(1,(1,160)),(2,(2,32))]),(291,[]),(292,[])],
 [(7,(.agg #[.int .i64 0,.int .i64 0,.bool false,.int .u8 0],[(0,1),(1,1),(2,1),(3,1)])),(8,(.agg #[.int .i64 0,.int .i64 0,.bool false,.int .u8 0],[(0,1),(1,1),(2,1),(3,1)])),(13,(.agg #[.string ByteArray.empty,.int .u64 0],[(0,1),(1,1)])),(14,(.agg #[.string ByteArray.empty,.int .u64 0],[(0,1),(1,1)])),(23,(.agg #[.slice none 0 0],[(0,1)])),(24,(.agg #[.slice none 0 0],[(0,1)])),(26,(.agg #[.int .i64 0,.slice none 0 0],[(0,1),(1,1)])),(27,(.agg #[.int .i64 0,.slice none 0 0],[(0,1),(1,1)])),(30,(.agg #[.slice none 0 0,.int .i64 0,.slice none 0 0,.slice none 0 0,.slice none 0 0],[(0,1),(1,2),(3,1),(4,1)])),(31,(.agg #[.slice none 0 0,.int .i64 0,.slice none 0 0,.slice none 0 0,.slice none 0 0],[(0,1),(1,2),(3,1),(4,1)])),(33,(.agg #[.string ByteArray.empty,.bool false,.slice none 0 0],[(0,1),(1,1),(2,1)])),(34,(.agg #[.string ByteArray.empty,.bool false,.slice none 0 0],[(0,1),(1,1),(2,1)])),(38,(.agg #[.slice none 0 0],[(0,1)])),(39,(.agg #[.slice none 0 0],[(0,1)])),(41,(.agg #[.int .i64 0,.slice none 0 0],[(0,1),(1,1)])),(42,(.agg #[.int .i64 0,.slice none 0 0],[(0,1),(1,1)])),(45,(.agg #[.slice none 0 0,.int .i64 0,.slice none 0 0,.slice none 0 0,.slice none 0 0],[(0,1),(1,2),(3,1),(4,1)])),(46,(.agg #[.slice none 0 0,.int .i64 0,.slice none 0 0,.slice none 0 0,.slice none 0 0],[(0,1),(1,2),(3,1),(4,1)])),(50,(.agg #[.string ByteArray.empty,.bool false,.slice none 0 0],[(0,1),(1,1),(2,1)])),(67,(.agg #[.int .i64 0,.slice none 0 0],[(0,1),(1,1)])),(68,(.agg #[.int .i64 0,.slice none 0 0],[(0,1),(1,1)])),(72,(.agg #[.int .i64 0,.slice none 0 0],[(0,1),(1,1)])),(73,(.agg #[.int .i64 0,.slice none 0 0],[(0,1),(1,1)])),(120,(.agg #[.string ByteArray.empty,.int .i64 0,.int .i64 0,.slice none 0 0],[(0,1),(1,1),(2,1),(3,1)])),(121,(.agg #[.string ByteArray.empty,.int .i64 0,.int .i64 0,.slice none 0 0],[(0,1),(1,1),(2,1),(3,1)])),(130,(.agg #[.string ByteArray.empty,.slice none 0 0],[(0,1),(1,1)])),(131,(.agg #[.string ByteArray.empty,.slice none 0 0],[(0,1),(1,1)])),(148,(.agg #[.int .i64 0,.int .i64 0,.int .i64 0],[(0,1),(1,1),(2,1)])),(149,(.agg #[.int .i64 0,.int .i64 0,.int .i64 0],[(0,1),(1,1),(2,1)])),(153,(.agg #[.string ByteArray.empty,.slice none 0 0,.int .i64 0],[(0,1),(1,1),(2,1)])),(154,(.agg #[.string ByteArray.empty,.slice none 0 0,.int .i64 0],[(0,1),(1,1),(2,1)])),(156,(.agg #[.string ByteArray.empty,.int .i64 0,.string ByteArray.empty,.int .i64 0],[(0,1),(1,1),(2,1),(3,1)])),(157,(.agg #[.string ByteArray.empty,.int .i64 0,.string ByteArray.empty,.int .i64 0],[(0,1),(1,1),(2,1),(3,1)])),(161,(.agg #[.string ByteArray.empty,.int .i64 0,.slice none 0 0],[(0,1),(1,1),(2,1)])),(162,(.agg #[.string ByteArray.empty,.int .i64 0,.slice none 0 0],[(0,1),(1,1),(2,1)])),(168,(.agg #[.string ByteArray.empty,.slice none 0 0,.int .i64 0],[(0,1),(1,1),(2,1)])),(170,(.agg #[.string ByteArray.empty,.int .i64 0,.string ByteArray.empty,.int .i64 0],[(0,1),(1,1),(2,1),(3,1)])),(185,(.agg #[.string ByteArray.empty,.slice none 0 0],[(0,1),(1,1)])),(202,(.agg #[.string ByteArray.empty,.int .i64 0,.slice none 0 0],[(0,1),(1,1),(2,1)])),(205,(.agg #[.string ByteArray.empty,.int .i64 0,.int .i64 0,.slice none 0 0],[(0,1),(1,1),(2,1),(3,1)])),(206,(.agg #[.string ByteArray.empty,.int .i64 0,.int .i64 0,.slice none 0 0],[(0,1),(1,1),(2,1),(3,1)])),(217,(.agg #[.slice none 0 0,.slice none 0 0,.slice none 0 0],[(0,1),(1,1),(2,1)])),(218,(.agg #[.slice none 0 0,.slice none 0 0,.slice none 0 0],[(0,1),(1,1),(2,1)])),(251,(.agg #[.slice none 0 0,.slice none 0 0,.slice none 0 0],[(0,1),(1,1),(2,1)])),(291,(.agg #[],[(0,0)])),(292,(.agg #[],[(0,0)]))],
 [(4,())],
 [(9,()),(10,()),(11,())],
 [(2,.i64),(3,.i64),(5,.u8),(6,.u8),(12,.u64),(21,.i32),(247,.u64),(255,.i64),(264,.u32),(266,.u64),(274,.u64),(294,.u8),(295,.u8),(298,.i32),(299,.i32)],
 [(149,[0,0,0]),(170,[2,0,2,0])]⟩
theorem fc {α:Type} {p:Nat→α→Prop} {k:Nat} {v:α} {l:List (Nat × α)} (h:p k v) (t:mV p l):mV p ((k,v)::l):=⟨h,t⟩
theorem aT:Tryz.prog.follows .mixedOrders=true:=by kernel_rfl
set_option maxRecDepth 100000 in
theorem bR:kL Tryz.prog tb:=
 ⟨(fc (by kernel_rfl)<| fc (by kernel_rfl)<| fc (by kernel_rfl)<| fc (by kernel_rfl)<| fc (by kernel_rfl)<| fc (by kernel_rfl)<| fc (by kernel_rfl)<| fc (by kernel_rfl)<| fc (by kernel_rfl)<| fc (by kernel_rfl)<| fc (by kernel_rfl)<| fc (by kernel_rfl)<| fc (by kernel_rfl)<| fc (by kernel_rfl)<| fc (by kernel_rfl)<| fc (by kernel_rfl)<| fc (by kernel_rfl)<| fc (by kernel_rfl)<| fc (by kernel_rfl)<| fc (by kernel_rfl)<| fc (by kernel_rfl)<| fc (by kernel_rfl)<| fc (by kernel_rfl)<| fc (by kernel_rfl)<| fc (by kernel_rfl)<| fc (by kernel_rfl)<| fc (by kernel_rfl)<| fc (by kernel_rfl)<| fc (by kernel_rfl)<| fc (by kernel_rfl)<| fc (by kernel_rfl)<| fc (by kernel_rfl)<| fc (by kernel_rfl)<| fc (by kernel_rfl)<| fc (by kernel_rfl)<| fc (by kernel_rfl)<| fc (by kernel_rfl)<| fc (by kernel_rfl)<| fc (by kernel_rfl)<| fc (by kernel_rfl)<| fc (by kernel_rfl)<| fc (by kernel_rfl)<| fc (by kernel_rfl)<| fc (by kernel_rfl)<| fc (by kernel_rfl)<| fc (by kernel_rfl)<| fc (by kernel_rfl)<| fc (by kernel_rfl)<| fc (by kernel_rfl)<| fc (by kernel_rfl)<| fc (by kernel_rfl)<| fc (by kernel_rfl)<| fc (by kernel_rfl)<| fc (by kernel_rfl)<| fc (by kernel_rfl)<| fc (by kernel_rfl)<| fc (by kernel_rfl)<| fc (by kernel_rfl)<| fc (by kernel_rfl)<| fc (by kernel_rfl)<| fc (by kernel_rfl)<| fc (by kernel_rfl)<| fc (by kernel_rfl)<| fc (by kernel_rfl)<| fc (by kernel_rfl)<| fc (by kernel_rfl)<| fc (by kernel_rfl)<| fc (by kernel_rfl)<| fc (by kernel_rfl)<| fc (by kernel_rfl)<| fc (by kernel_rfl)<| fc (by kernel_rfl)<| fc (by kernel_rfl)<| fc (by kernel_rfl)<| fc (by kernel_rfl)<| fc (by kernel_rfl)<| fc (by kernel_rfl)<| fc (by kernel_rfl)<| fc (by kernel_rfl)<| fc (by kernel_rfl)<| fc (by kernel_rfl)<| fc (by kernel_rfl)<| fc (by kernel_rfl)<| fc (by kernel_rfl)<| trivial),
  (fc (by kernel_rfl)<| fc (by kernel_rfl)<| fc (by kernel_rfl)<| fc (by kernel_rfl)<| fc (by kernel_rfl)<| fc (by kernel_rfl)<| fc (by kernel_rfl)<| fc (by kernel_rfl)<| fc (by kernel_rfl)<| fc (by kernel_rfl)<| fc (by kernel_rfl)<| fc (by kernel_rfl)<| fc (by kernel_rfl)<| fc (by kernel_rfl)<| fc (by kernel_rfl)<| fc (by kernel_rfl)<| fc (by kernel_rfl)<| fc (by kernel_rfl)<| fc (by kernel_rfl)<| trivial),
  (fc (fc (by kernel_rfl)<| fc (by kernel_rfl)<| fc (by kernel_rfl)<| fc (by kernel_rfl)<| trivial)<| fc (fc (by kernel_rfl)<| fc (by kernel_rfl)<| fc (by kernel_rfl)<| fc (by kernel_rfl)<| trivial)<| fc (fc (by kernel_rfl)<| fc (by kernel_rfl)<| trivial)<| fc (fc (by kernel_rfl)<| fc (by kernel_rfl)<| trivial)<| fc (fc (by kernel_rfl)<| trivial)<| fc (fc (by kernel_rfl)<| trivial)<| fc (fc (by kernel_rfl)<| fc (by kernel_rfl)<| trivial)<| fc (fc (by kernel_rfl)<| fc (by kernel_rfl)<| trivial)<| fc (fc (by kernel_rfl)<| fc (by kernel_rfl)<| fc (by kernel_rfl)<| fc (by kernel_rfl)<| trivial)<| fc (fc (by kernel_rfl)<| fc (by kernel_rfl)<| fc (by kernel_rfl)<| fc (by kernel_rfl)<| trivial)<| fc (fc (by kernel_rfl)<| fc (by kernel_rfl)<| fc (by kernel_rfl)<| trivial)<| fc (fc (by kernel_rfl)<| fc (by kernel_rfl)<| fc (by kernel_rfl)<| trivial)<| fc (fc (by kernel_rfl)<| trivial)<| fc (fc (by kernel_rfl)<| trivial)<| fc (fc (by kernel_rfl)<| fc (by kernel_rfl)<| trivial)<| fc (fc (by kernel_rfl)<| fc (by kernel_rfl)<| trivial)<| fc (fc (by kernel_rfl)<| fc (by kernel_rfl)<| fc (by kernel_rfl)<| fc (by kernel_rfl)<| trivial)<| fc (fc (by kernel_rfl)<| fc (by kernel_rfl)<| fc (by kernel_rfl)<| fc (by kernel_rfl)<| trivial)<| fc (fc (by kernel_rfl)<| fc (by kernel_rfl)<| fc (by kernel_rfl)<| trivial)<| fc (fc (by kernel_rfl)<| fc (by kernel_rfl)<| trivial)<| fc (fc (by kernel_rfl)<| fc (by kernel_rfl)<| trivial)<| fc (fc (by kernel_rfl)<| fc (by kernel_rfl)<| trivial)<| fc (fc (by kernel_rfl)<| fc (by kernel_rfl)<| trivial)<| fc (fc (by kernel_rfl)<| fc (by kernel_rfl)<| fc (by kernel_rfl)<| fc (by kernel_rfl)<| trivial)<| fc (fc (by kernel_rfl)<| fc (by kernel_rfl)<| fc (by kernel_rfl)<| fc (by kernel_rfl)<| trivial)<| fc (fc (by kernel_rfl)<| fc (by kernel_rfl)<| trivial)<| fc (fc (by kernel_rfl)<| fc (by kernel_rfl)<| trivial)<| fc (fc (by kernel_rfl)<| fc (by kernel_rfl)<| fc (by kernel_rfl)<| trivial)<| fc (fc (by kernel_rfl)<| fc (by kernel_rfl)<| fc (by kernel_rfl)<| trivial)<| fc (fc (by kernel_rfl)<| fc (by kernel_rfl)<| fc (by kernel_rfl)<| trivial)<| fc (fc (by kernel_rfl)<| fc (by kernel_rfl)<| fc (by kernel_rfl)<| trivial)<| fc (fc (by kernel_rfl)<| fc (by kernel_rfl)<| fc (by kernel_rfl)<| fc (by kernel_rfl)<| trivial)<| fc (fc (by kernel_rfl)<| fc (by kernel_rfl)<| fc (by kernel_rfl)<| fc (by kernel_rfl)<| trivial)<| fc (fc (by kernel_rfl)<| fc (by kernel_rfl)<| fc (by kernel_rfl)<| trivial)<| fc (fc (by kernel_rfl)<| fc (by kernel_rfl)<| fc (by kernel_rfl)<| trivial)<| fc (fc (by kernel_rfl)<| fc (by kernel_rfl)<| fc (by kernel_rfl)<| trivial)<| fc (fc (by kernel_rfl)<| fc (by kernel_rfl)<| fc (by kernel_rfl)<| fc (by kernel_rfl)<| trivial)<| fc (fc (by kernel_rfl)<| fc (by kernel_rfl)<| trivial)<| fc (fc (by kernel_rfl)<| fc (by kernel_rfl)<| fc (by kernel_rfl)<| trivial)<| fc (fc (by kernel_rfl)<| fc (by kernel_rfl)<| fc (by kernel_rfl)<| fc (by kernel_rfl)<| trivial)<| fc (fc (by kernel_rfl)<| fc (by kernel_rfl)<| fc (by kernel_rfl)<| fc (by kernel_rfl)<| trivial)<| fc (fc (by kernel_rfl)<| fc (by kernel_rfl)<| fc (by kernel_rfl)<| trivial)<| fc (fc (by kernel_rfl)<| fc (by kernel_rfl)<| fc (by kernel_rfl)<| trivial)<| fc (fc (by kernel_rfl)<| fc (by kernel_rfl)<| fc (by kernel_rfl)<| trivial)<| fc (trivial)<| fc (trivial)<| trivial),
  (fc (by kernel_rfl)<| fc (by kernel_rfl)<| fc (by kernel_rfl)<| fc (by kernel_rfl)<| fc (by kernel_rfl)<| fc (by kernel_rfl)<| fc (by kernel_rfl)<| fc (by kernel_rfl)<| fc (by kernel_rfl)<| fc (by kernel_rfl)<| fc (by kernel_rfl)<| fc (by kernel_rfl)<| fc (by kernel_rfl)<| fc (by kernel_rfl)<| fc (by kernel_rfl)<| fc (by kernel_rfl)<| fc (by kernel_rfl)<| fc (by kernel_rfl)<| fc (by kernel_rfl)<| fc (by kernel_rfl)<| fc (by kernel_rfl)<| fc (by kernel_rfl)<| fc (by kernel_rfl)<| fc (by kernel_rfl)<| fc (by kernel_rfl)<| fc (by kernel_rfl)<| fc (by kernel_rfl)<| fc (by kernel_rfl)<| fc (by kernel_rfl)<| fc (by kernel_rfl)<| fc (by kernel_rfl)<| fc (by kernel_rfl)<| fc (by kernel_rfl)<| fc (by kernel_rfl)<| fc (by kernel_rfl)<| fc (by kernel_rfl)<| fc (by kernel_rfl)<| fc (by kernel_rfl)<| fc (by kernel_rfl)<| fc (by kernel_rfl)<| fc (by kernel_rfl)<| fc (by kernel_rfl)<| fc (by kernel_rfl)<| fc (by kernel_rfl)<| fc (by kernel_rfl)<| fc (by kernel_rfl)<| trivial),
  (fc (by kernel_rfl)<| trivial),
  (fc (by kernel_rfl)<| fc (by kernel_rfl)<| fc (by kernel_rfl)<| trivial),
  (fc (by kernel_rfl)<| fc (by kernel_rfl)<| fc (by kernel_rfl)<| fc (by kernel_rfl)<| fc (by kernel_rfl)<| fc (by kernel_rfl)<| fc (by kernel_rfl)<| fc (by kernel_rfl)<| fc (by kernel_rfl)<| fc (by kernel_rfl)<| fc (by kernel_rfl)<| fc (by kernel_rfl)<| fc (by kernel_rfl)<| fc (by kernel_rfl)<| fc (by kernel_rfl)<| trivial),
  (fc (by kernel_rfl)<| fc (by kernel_rfl)<| trivial)⟩
end Go.Proofs.YtokkjaflmcjlhaaGreat
namespace Go.Proofs.YtokkjaflmcjlhaaGreat
open Go.ChangeShapes Go.WideShapes Go.ChangeAt Go.RowKit
set_option linter.unusedVariables false
set_option linter.unusedSimpArgs false
set_option maxRecDepth 100000
set_option maxHeartbeats 4000000
abbrev bG (p:AV × List (Nat × Rs)) (t:T):T:= .call p.1 p.2 t
abbrev kD (p:List AV × List (Nat × Rs) × AV × List (Nat × Rs)) (r:List (Nat × Nat)) (t:T):T:= .callx p.1 p.2.1 r p.2.2.1 p.2.2.2 t
theorem yq {p:Prop} [Decidable p] (h:decide p=true):p:=of_decide_eq_true h
theorem nq {p:Prop} [Decidable p] (h:decide p=false): ¬p:=of_decide_eq_false h
abbrev Em {α:Type} (enc:α→List bP) (l:List α) (i:Nat) (P:α→Prop):Prop:=l.map enc=l.map enc∧i<l.length∧ ∀x,l[i]? =some x→P x
abbrev Lm {α:Type} (enc:α→List bP) (l:List α):Prop:=(l.map enc).length=l.length
def aKj (s:ByteArray):Prop:=s.size≤maxLen
def aPj (_:Bool):Prop:=True
theorem aOD {A:Nat→Prop} {w:World} {s:ByteArray}:gC A w (.str s) (.string s):=by unfold gC;rfl
theorem aM7 {A:Nat→Prop} {w:World} {b:Bool}:gC A w (.bool b) (.bool b):=by unfold gC;rfl
theorem rdOne {A:Nat→Prop} {w:World} {d:bP} {v:Value} (h:iM A w [d] [v]):gC A w d v:=by
 obtain ⟨u,us,e,h1,_⟩:=h
 injection e with e1
 subst e1;exact h1
theorem rdI {w:World} {c:Value} {n:Int} (h:aKH w [c] n):gC (Lv w) w (.int .i64 n) c:=by
 have e:=h.1
 simp at e
 subst e;exact aJb
theorem rdS {w:World} {c:Value} {s:ByteArray} (h:aO2 w [c] s):gC (Lv w) w (.str s) c:=by
 have e:=h.1
 simp at e
 subst e;exact aOD
theorem rdB {w:World} {c:Value} {b:Bool} (h:aL0 w [c] b):gC (Lv w) w (.bool b) c:=by
 have e:[c]= [.bool b]:=h
 simp at e
 subst e;exact aM7
theorem iG {n:Nat} {m:Int} (h: ¬aQ n m<0):(n:Int)≤m:=by
 unfold aQ at h
 split at h
 ·assumption
 ·omega
theorem iV {n:Nat} {m:Int} (h:aQ n m<0): ¬(n:Int)≤m:=by
 unfold aQ at h
 split at h
 ·omega
 ·assumption
theorem lU {α:Type} {l:List α} {k:Nat} {x z:α} (h:l[k]? =some x):(l.take k++List.replicate (l.length - k) z).set k x=l.take (k+1)++List.replicate (l.length - (k+1)) z:=by
 have hk:k<l.length:=(List.getElem?_eq_some_iff.1 h).1
 rw [show l.length - k=(l.length - (k+1))+1 by omega,List.replicate_succ,List.set_append_right _ _ (by simp;omega),cU h]
 simp [show k - min k l.length=0 by omega]
theorem oH {α:Type} {l:List α} {k:Nat} {z:α} (h:k≤l.length):(l.take k++List.replicate (l.length - k) z).length=l.length:=by simp;omega
theorem lV {α:Type} {l:List α} {k:Nat} {z:α} (h:k≤l.length) (h' : ¬k<l.length):l.take k++List.replicate (l.length - k) z=l:=by
 rw [show k=l.length by omega];simp
theorem iO {α:Type} {l:List α} {i:Nat} {x y:α} (h:(l.set i y)[i]? =some x):x=y:=by
 rw [List.getElem?_set_self'] at h
 cases hl:l[i]? with
 | none=>simp [hl] at h
 | some z=>simp [hl] at h;exact h.symm
theorem cE {α:Type} {l:List α} {k:Nat} (h:k<l.length): ∃x,l[k]? =some x:=⟨_,List.getElem?_eq_getElem h⟩
def aF (l:List Int):List bP:=[.sl 3 1 (l.map intD)]
def aCC (l:List Int):Prop:= ∀x∈l,aBQ x
def bZ (l:List Int):Nat:=l.length
theorem aFh (l:List Int):l.length≤bZ l:=Nat.le_refl _
def aPW (l:List (List Int)):List bP:=[.sl 32 1 (l.map aF)]
def aDb (l:List (List Int)):Prop:= ∀x∈l,aCC x
def cP (l:List (List Int)):Nat:=rO bZ l
theorem fO (l:List (List Int)):l.length≤cP l:=pQ _ l
theorem pJ {l:List (List Int)} {k:Nat} {y:List Int} (h:l[k]? =some y):bZ y≤cP l:=pR _ h
structure aN where
 name:ByteArray
 arity:Int
 rows:List (List Int)
 deriving DecidableEq
def aD (x:aN):List bP:=[.str x.name,.int .i64 x.arity,.sl 32 1 (x.rows.map aF)]
def aIz (x:aN):Prop:=aKj x.name∧aBQ x.arity∧aDb x.rows
def dF (x:aN):Nat:=ByteArray.size x.name+cP x.rows
def fJ:aN:=⟨ByteArray.empty,(0:Int),[]⟩
def aOE (l:List aN):List bP:=[.sl 162 3 (l.map aD)]
def aCr (l:List aN):Prop:= ∀x∈l,aIz x
def eW (l:List aN):Nat:=rO dF l
theorem rB (l:List aN):l.length≤eW l:=pQ _ l
theorem jG {l:List aN} {k:Nat} {y:aN} (h:l[k]? =some y):dF y≤eW l:=pR _ h
structure aP where
 tables:List aN
 deriving DecidableEq
def aKk (x:aP):List bP:=[.sl 162 3 (x.tables.map aD)]
def aBa (x:aP):Prop:=aCr x.tables
def aW (x:aP):Nat:=eW x.tables
structure UpdateD where
 name:ByteArray
 ins:Bool
 row:List Int
 deriving DecidableEq
def aX (x:UpdateD):List bP:=[.str x.name,.bool x.ins,.sl 3 1 (x.row.map intD)]
def aG7 (x:UpdateD):Prop:=aKj x.name∧aPj x.ins∧aCC x.row
def dR (x:UpdateD):Nat:=ByteArray.size x.name+bZ x.row
def jZ:UpdateD:=⟨ByteArray.empty,false,[]⟩
def aM8 (l:List UpdateD):List bP:=[.sl 50 3 (l.map aX)]
def aAh (l:List UpdateD):Prop:= ∀x∈l,aG7 x
def gE (l:List UpdateD):Nat:=rO dR l
theorem aAi (l:List UpdateD):l.length≤gE l:=pQ _ l
theorem vP {l:List UpdateD} {k:Nat} {y:UpdateD} (h:l[k]? =some y):dR y≤gE l:=pR _ h
structure aH where
 columns:List Int
 values:List (List Int)
 counts:List Int
 deriving DecidableEq
def aC (x:aH):List bP:=[.sl 3 1 (x.columns.map intD),.sl 32 1 (x.values.map aF),.sl 3 1 (x.counts.map intD)]
def vQ (x:aH):Prop:=aCC x.columns∧aDb x.values∧aCC x.counts
def bD (x:aH):Nat:=bZ x.columns+cP x.values+bZ x.counts
def bO:aH:=⟨[],[],[]⟩
def aG8 (l:List aH):List bP:=[.sl 218 3 (l.map aC)]
def pB (l:List aH):Prop:= ∀x∈l,vQ x
def cS (l:List aH):Nat:=rO bD l
theorem kM (l:List aH):l.length≤cS l:=pQ _ l
theorem lH {l:List aH} {k:Nat} {y:aH} (h:l[k]? =some y):bD y≤cS l:=pR _ h
structure aG where
 name:ByteArray
 arity:Int
 rowCount:Int
 groups:List aH
 deriving DecidableEq
def aA (x:aG):List bP:=[.str x.name,.int .i64 x.arity,.int .i64 x.rowCount,.sl 218 3 (x.groups.map aC)]
def vR (x:aG):Prop:=aKj x.name∧aBQ x.arity∧aBQ x.rowCount∧pB x.groups
def bC (x:aG):Nat:=ByteArray.size x.name+cS x.groups
def dD:aG:=⟨ByteArray.empty,(0:Int),(0:Int),[]⟩
def aG9 (l:List aG):List bP:=[.sl 121 4 (l.map aA)]
def pC (l:List aG):Prop:= ∀x∈l,vR x
def cT (l:List aG):Nat:=rO bC l
theorem kN (l:List aG):l.length≤cT l:=pQ _ l
theorem lI {l:List aG} {k:Nat} {y:aG} (h:l[k]? =some y):bC y≤cT l:=pR _ h
structure cA where
 version:Int
 tables:List aG
 deriving DecidableEq
def aJA (x:cA):List bP:=[.int .i64 x.version,.sl 121 4 (x.tables.map aA)]
def zG (x:cA):Prop:=aBQ x.version∧pC x.tables
def bK (x:cA):Nat:=cT x.tables
def aDc:cA:=⟨(0:Int),[]⟩
structure aJ where
 name:ByteArray
 src:List Int
 dst:Int
 deriving DecidableEq
def aB (x:aJ):List bP:=[.str x.name,.sl 3 1 (x.src.map intD),.int .i64 x.dst]
def vS (x:aJ):Prop:=aKj x.name∧aCC x.src∧aBQ x.dst
def bI (x:aJ):Nat:=ByteArray.size x.name+bZ x.src
def dP:aJ:=⟨ByteArray.empty,[],(0:Int)⟩
def aGa (l:List aJ):List bP:=[.sl 168 3 (l.map aB)]
def pD (l:List aJ):Prop:= ∀x∈l,vS x
def bH (l:List aJ):Nat:=rO bI l
theorem kO (l:List aJ):l.length≤bH l:=pQ _ l
theorem oO {l:List aJ} {k:Nat} {y:aJ} (h:l[k]? =some y):bI y≤bH l:=pR _ h
structure aL where
 name:ByteArray
 column:Int
 into:ByteArray
 intoColumn:Int
 deriving DecidableEq
def aE (x:aL):List bP:=[.str x.name,.int .i64 x.column,.str x.into,.int .i64 x.intoColumn]
def zH (x:aL):Prop:=aKj x.name∧aBQ x.column∧aKj x.into∧aBQ x.intoColumn
def bU (x:aL):Nat:=ByteArray.size x.name+ByteArray.size x.into
def eO:aL:=⟨ByteArray.empty,(0:Int),ByteArray.empty,(0:Int)⟩
def aHh (l:List aL):List bP:=[.sl 170 4 (l.map aE)]
def rC (l:List aL):Prop:= ∀x∈l,zH x
def cG (l:List aL):Nat:=rO bU l
theorem iA (l:List aL):l.length≤cG l:=pQ _ l
theorem aDd {l:List aL} {k:Nat} {y:aL} (h:l[k]? =some y):bU y≤cG l:=pR _ h
structure StoreD where
 database:aP
 catalogue:cA
 dependencies:List aJ
 inclusions:List aL
 deriving DecidableEq
def aPX (x:StoreD):List bP:=[.sl 162 3 (x.database.tables.map aD),.int .i64 x.catalogue.version,.sl 121 4 (x.catalogue.tables.map aA),.sl 168 3 (x.dependencies.map aB),.sl 170 4 (x.inclusions.map aE)]
def aJB (x:StoreD):Prop:=aBa x.database∧zG x.catalogue∧pD x.dependencies∧rC x.inclusions
def dQ (x:StoreD):Nat:=aW x.database+bK x.catalogue+bH x.dependencies+cG x.inclusions
theorem jH (s t:ByteArray):(s.toList==t.toList)=decide (s=t):=by
 rw [ByteArray.toList_eq,ByteArray.toList_eq]
 by_cases h:s=t
 ·simp [h]
 ·have: ¬s.data.toList=t.data.toList:=fun e=>h (by cases s;cases t;simp at e;simp [e])
  simp only [h,decide_false,beq_eq_false_iff_ne]
  exact this
theorem lW {α:Type} {l m:List α} {k:Nat} {x:α} (h:l[k]? =some x) (h' :m[k]? =some x) (e:l.take k=m.take k):l.take (k+1)=m.take (k+1):=by rw [cU h,cU h',e]
theorem uD {α:Type} {l m:List α} {k:Nat} {x y:α} (h:l[k]? =some x) (h' :m[k]? =some y) (e: ¬x=y): ¬l=m:=by
 rintro rfl
 rw [h] at h'
 exact e (by injection h')
theorem nA {α:Type} {l m:List α} (h: ¬(l.length:Int)=m.length): ¬l=m:=fun e=>h (by rw [e])
theorem fS {α:Type} {l m:List α} {k:Nat} (hk:l.length≤k) (hl:l.length=m.length) (e:l.take k=m.take k):l=m:=by rwa [List.take_of_length_le hk,List.take_of_length_le (by omega)] at e
abbrev nB (l:List Int) (m:List Int):Prop:=dJ Tryz.prog 267 [.one (.sl 3 1 (l.map intD)),.one (.sl 3 1 (m.map intD))] (vB (decide (l=m))) []
theorem xY (l m:List Int):nB l m:=by
 refine aZ bR aT Tryz.func267 (by kernel_rfl) (.len l.length<| .len m.length<| .br (.fin []) (.len l.length<| .loop Nat (Q1 Nat) [5,13,14,15,16,17,18,19,20,21,22,23,24,25] [] (fun k=>[(13,vI (k:Int))]) (fun k=>[]) (fun k=>k≤l.length∧l.take k=m.take k) (fun k=>l.length - k) (fun k=> .br (.elem _ intD l (fun e18=> .elem _ intD m (fun e22=> .br (.fin []) (.back [])))) (.fin [])))) (p:=(l.map intD).length≤9223372036854775807→(m.map intD).length≤9223372036854775807→Lm intD l∧(Lm intD m∧(((!(decide (((l.length:Nat):Int)=((m.length:Nat):Int))))=true→(false)=(decide (l=m))∧True)∧((!(decide (((l.length:Nat):Int)=((m.length:Nat):Int))))=false→Lm intD l∧((∃(k:Nat),(0:Int)=(k:Int)∧k≤l.length∧l.take k=m.take k)∧ ∀(k:Nat),(k≤l.length∧l.take k=m.take k)→((decide ((k:Int)<((l.length:Nat):Int)))=true→0≤(k:Int)∧Em intD l k fun e18=>0≤(k:Int)∧Em intD m k fun e22=>((!(decide (e18=e22)))=true→(false)=(decide (l=m))∧True)∧((!(decide (e18=e22)))=false→dO ((k:Int)+(1:Int))∧ ∃(k' :Nat),((k:Int)+(1:Int))=(k' :Int)∧(k' ≤l.length∧l.take k' =m.take k')∧l.length - k' <l.length - k))∧((decide ((k:Int)<((l.length:Nat):Int)))=false→(true)=(decide (l=m))∧True)))))) (by kernel_rfl) ?_
 intro n0 n1
 simp only [List.length_map] at n0 n1
 refine ⟨List.length_map _,List.length_map _,fun c0=>?_,fun c0=>?_⟩
 ·replace c0:=nq (nt c0)
  refine ⟨?_,trivial⟩
  ·first | (simp [uD hx hy hxy];done) | (simp [nA c0];done) | (simp [fS (by omega) hl ht];done)
 ·replace c0:=yq (nf c0)
  have hl:l.length=m.length:=by omega
  refine ⟨List.length_map _,⟨0,rfl,Nat.zero_le _,rfl⟩,fun k ⟨hk,ht⟩=>?_⟩
  refine ⟨fun c1=>?_,fun c1=>?_⟩
  ·replace c1:=yq c1
   obtain ⟨x,hx⟩:=cE (l:=l) (k:=k) (by omega)
   obtain ⟨y,hy⟩:=cE (l:=m) (k:=k) (by omega)
   refine ⟨by omega,rfl,by omega,fun e18 h18=>?_⟩
   obtain rfl:=(aV hx h18).symm
   refine ⟨by omega,rfl,by omega,fun e22 h22=>?_⟩
   obtain rfl:=(aV hy h22).symm
   refine ⟨fun c2=>?_,fun c2=>?_⟩
   ·replace c2:=nq (nt c2)
    have hxy: ¬x=y:=by simpa using c2
    refine ⟨?_,trivial⟩
    ·first | (simp [uD hx hy hxy];done) | (simp [nA c0];done) | (simp [fS (by omega) hl ht];done)
   ·replace c2:=yq (nf c2)
    have hxy:x=y:=by simpa using c2
    refine ⟨⟨by omega,by omega⟩,?_⟩
    exact ⟨k+1,rfl,⟨by omega,lW hx (by rw [hy,hxy]) ht⟩,by omega⟩
  ·replace c1:=nq c1
   refine ⟨?_,trivial⟩
   ·first | (simp [uD hx hy hxy];done) | (simp [nA c0];done) | (simp [fS (by omega) hl ht];done)
abbrev aM9 (l:List Int) (m:List Int):Prop:=dJ Tryz.prog 299 [.one (.sl 3 1 (l.map intD)),.one (.sl 3 1 (m.map intD))] (vB (decide (l=m))) []
theorem aQG (l m:List Int):aM9 l m:=by
 refine aZ bR aT Tryz.func299 (by kernel_rfl) (.call (vB (decide (l=m))) []<| .fin []) (p:=(l.map intD).length≤9223372036854775807→(m.map intD).length≤9223372036854775807→nB l m∧(decide (l=m))=(decide (l=m))∧True) (by kernel_rfl) ?_
 intro n0 n1
 simp only [List.length_map] at n0 n1
 refine ⟨xY _ _,?_,trivial⟩
 ·rfl
abbrev aCD (l:List (List Int)) (m:List (List Int)):Prop:=dJ Tryz.prog 298 [.one (.sl 32 1 (l.map aF)),.one (.sl 32 1 (m.map aF)),.fn 299 []] (vB (decide (l=m))) []
theorem aKl (l m:List (List Int)):aCD l m:=by
 refine aZ bR aT Tryz.func298 (by kernel_rfl) (.len l.length<| .len m.length<| .br (.fin []) (.len l.length<| .loop Nat (Q1 Nat) [7,8,9,17,18,19,20,21,22,23,24,25,26,27,28,29,30,31] [] (fun k=>[(17,vI (k:Int))]) (fun k=>[]) (fun k=>k≤l.length∧l.take k=m.take k) (fun k=>l.length - k) (fun k=> .br (.elem _ aF l (fun e20=> .elem _ aF m (fun e24=> .call (vB (decide (e20=e24))) []<| .br (.fin []) (.back [])))) (.fin [])))) (p:=(l.map aF).length≤9223372036854775807→(m.map aF).length≤9223372036854775807→Lm aF l∧(Lm aF m∧(((!(decide (((l.length:Nat):Int)=((m.length:Nat):Int))))=true→(false)=(decide (l=m))∧True)∧((!(decide (((l.length:Nat):Int)=((m.length:Nat):Int))))=false→Lm aF l∧((∃(k:Nat),(0:Int)=(k:Int)∧k≤l.length∧l.take k=m.take k)∧ ∀(k:Nat),(k≤l.length∧l.take k=m.take k)→((decide ((k:Int)<((l.length:Nat):Int)))=true→0≤(k:Int)∧Em aF l k fun e20=>0≤(k:Int)∧Em aF m k fun e24=>aM9 e20 e24∧(((!(decide (e20=e24)))=true→(false)=(decide (l=m))∧True)∧((!(decide (e20=e24)))=false→dO ((k:Int)+(1:Int))∧ ∃(k' :Nat),((k:Int)+(1:Int))=(k' :Int)∧(k' ≤l.length∧l.take k' =m.take k')∧l.length - k' <l.length - k)))∧((decide ((k:Int)<((l.length:Nat):Int)))=false→(true)=(decide (l=m))∧True)))))) (by kernel_rfl) ?_
 intro n0 n1
 simp only [List.length_map] at n0 n1
 refine ⟨List.length_map _,List.length_map _,fun c0=>?_,fun c0=>?_⟩
 ·replace c0:=nq (nt c0)
  refine ⟨?_,trivial⟩
  ·first | (simp [uD hx hy hxy];done) | (simp [nA c0];done) | (simp [fS (by omega) hl ht];done)
 ·replace c0:=yq (nf c0)
  have hl:l.length=m.length:=by omega
  refine ⟨List.length_map _,⟨0,rfl,Nat.zero_le _,rfl⟩,fun k ⟨hk,ht⟩=>?_⟩
  refine ⟨fun c1=>?_,fun c1=>?_⟩
  ·replace c1:=yq c1
   obtain ⟨x,hx⟩:=cE (l:=l) (k:=k) (by omega)
   obtain ⟨y,hy⟩:=cE (l:=m) (k:=k) (by omega)
   refine ⟨by omega,rfl,by omega,fun e20 h20=>?_⟩
   obtain rfl:=(aV hx h20).symm
   refine ⟨by omega,rfl,by omega,fun e24 h24=>?_⟩
   obtain rfl:=(aV hy h24).symm
   refine ⟨aQG _ _,fun c2=>?_,fun c2=>?_⟩
   ·replace c2:=nq (nt c2)
    have hxy: ¬x=y:=by simpa using c2
    refine ⟨?_,trivial⟩
    ·first | (simp [uD hx hy hxy];done) | (simp [nA c0];done) | (simp [fS (by omega) hl ht];done)
   ·replace c2:=yq (nf c2)
    have hxy:x=y:=by simpa using c2
    refine ⟨⟨by omega,by omega⟩,?_⟩
    exact ⟨k+1,rfl,⟨by omega,lW hx (by rw [hy,hxy]) ht⟩,by omega⟩
  ·replace c1:=nq c1
   refine ⟨?_,trivial⟩
   ·first | (simp [uD hx hy hxy];done) | (simp [nA c0];done) | (simp [fS (by omega) hl ht];done)
abbrev yM (l:List (List Int)) (m:List (List Int)):Prop:=dJ Tryz.prog 283 [.one (.sl 32 1 (l.map aF)),.one (.sl 32 1 (m.map aF))] (vB (decide (l=m))) []
theorem aHi (l m:List (List Int)):yM l m:=by
 refine aZ bR aT Tryz.func283 (by kernel_rfl) (.call (vB (decide (l=m))) []<| .fin []) (p:=(l.map aF).length≤9223372036854775807→(m.map aF).length≤9223372036854775807→aCD l m∧(decide (l=m))=(decide (l=m))∧True) (by kernel_rfl) ?_
 intro n0 n1
 simp only [List.length_map] at n0 n1
 refine ⟨aKl _ _,?_,trivial⟩
 ·rfl
theorem iW (a b:aH):decide (a=b)=(decide (a.columns=b.columns)&&(decide (a.values=b.values)&&decide (a.counts=b.counts))):=by
 obtain ⟨a0,a1,a2⟩:=a
 obtain ⟨b0,b1,b2⟩:=b
 simp [Bool.and_assoc]
abbrev aDe (a:aH) (b:aH):Prop:=dJ Tryz.prog 263 [.agg [.sl 3 1 (a.columns.map intD),.sl 32 1 (a.values.map aF),.sl 3 1 (a.counts.map intD)],.agg [.sl 3 1 (b.columns.map intD),.sl 32 1 (b.values.map aF),.sl 3 1 (b.counts.map intD)]] (vB (decide (a=b))) []
theorem aMa (a b:aH):aDe a b:=by
 refine aZ bR aT Tryz.func263 (by kernel_rfl) (.call (vB (decide (a.columns=b.columns))) []<| .br (.call (vB (decide (a.values=b.values))) []<| .lit<| .br (.call (vB (decide (a.counts=b.counts))) []<| .fin []) (.fin [])) (.fin [])) (p:=(a.columns.map intD).length≤9223372036854775807→(a.values.map aF).length≤9223372036854775807→(a.counts.map intD).length≤9223372036854775807→(b.columns.map intD).length≤9223372036854775807→(b.values.map aF).length≤9223372036854775807→(b.counts.map intD).length≤9223372036854775807→nB a.columns b.columns∧(((decide (a.columns=b.columns))=true→yM a.values b.values∧(((decide (a.values=b.values))=true→nB a.counts b.counts∧(decide (a.counts=b.counts))=(decide (a=b))∧True)∧((decide (a.values=b.values))=false→(false)=(decide (a=b))∧True)))∧((decide (a.columns=b.columns))=false→(false)=(decide (a=b))∧True))) (by kernel_rfl) ?_
 intro n0 n1 n2 n3 n4 n5
 simp only [List.length_map] at n0 n1 n2 n3 n4 n5
 refine ⟨xY _ _,fun g10=>?_,fun g10=>?_⟩
 ·replace g10:=yq g10
  refine ⟨aHi _ _,fun g17=>?_,fun g17=>?_⟩
  ·replace g17:=yq g17
   refine ⟨xY _ _,?_,trivial⟩
   ·first | (rw [iW];done) | (rw [iW];simp_all [jH];done)
  ·replace g17:=nq g17
   refine ⟨?_,trivial⟩
   ·first | (rw [iW];done) | (rw [iW];simp_all [jH];done)
 ·replace g10:=nq g10
  refine ⟨?_,trivial⟩
  ·first | (rw [iW];done) | (rw [iW];simp_all [jH];done)
abbrev rD (l:List aH) (m:List aH):Prop:=dJ Tryz.prog 262 [.one (.sl 218 3 (l.map aC)),.one (.sl 218 3 (m.map aC)),.fn 263 []] (vB (decide (l=m))) []
theorem aCd (l m:List aH):rD l m:=by
 refine aZ bR aT Tryz.func262 (by kernel_rfl) (.len l.length<| .len m.length<| .br (.fin []) (.len l.length<| .loop Nat (Q1 Nat) [7,8,9,17,18,19,20,21,22,23,24,25,26,27,28,29,30,31] [800,900] (fun k=>[(17,vI (k:Int))]) (fun k=>[]) (fun k=>k≤l.length∧l.take k=m.take k) (fun k=>l.length - k) (fun k=> .br (.elem _ aC l (fun e20=> .elem _ aC m (fun e24=> .call (vB (decide (e20=e24))) []<| .br (.fin []) (.back [])))) (.fin [])))) (p:=(l.map aC).length≤9223372036854775807→(m.map aC).length≤9223372036854775807→Lm aC l∧(Lm aC m∧(((!(decide (((l.length:Nat):Int)=((m.length:Nat):Int))))=true→(false)=(decide (l=m))∧True)∧((!(decide (((l.length:Nat):Int)=((m.length:Nat):Int))))=false→Lm aC l∧((∃(k:Nat),(0:Int)=(k:Int)∧k≤l.length∧l.take k=m.take k)∧ ∀(k:Nat),(k≤l.length∧l.take k=m.take k)→((decide ((k:Int)<((l.length:Nat):Int)))=true→0≤(k:Int)∧Em aC l k fun e20=>0≤(k:Int)∧Em aC m k fun e24=>aDe e20 e24∧(((!(decide (e20=e24)))=true→(false)=(decide (l=m))∧True)∧((!(decide (e20=e24)))=false→dO ((k:Int)+(1:Int))∧ ∃(k' :Nat),((k:Int)+(1:Int))=(k' :Int)∧(k' ≤l.length∧l.take k' =m.take k')∧l.length - k' <l.length - k)))∧((decide ((k:Int)<((l.length:Nat):Int)))=false→(true)=(decide (l=m))∧True)))))) (by kernel_rfl) ?_
 intro n0 n1
 simp only [List.length_map] at n0 n1
 refine ⟨List.length_map _,List.length_map _,fun c0=>?_,fun c0=>?_⟩
 ·replace c0:=nq (nt c0)
  refine ⟨?_,trivial⟩
  ·first | (simp [uD hx hy hxy];done) | (simp [nA c0];done) | (simp [fS (by omega) hl ht];done)
 ·replace c0:=yq (nf c0)
  have hl:l.length=m.length:=by omega
  refine ⟨List.length_map _,⟨0,rfl,Nat.zero_le _,rfl⟩,fun k ⟨hk,ht⟩=>?_⟩
  refine ⟨fun c1=>?_,fun c1=>?_⟩
  ·replace c1:=yq c1
   obtain ⟨x,hx⟩:=cE (l:=l) (k:=k) (by omega)
   obtain ⟨y,hy⟩:=cE (l:=m) (k:=k) (by omega)
   refine ⟨by omega,rfl,by omega,fun e20 h20=>?_⟩
   obtain rfl:=(aV hx h20).symm
   refine ⟨by omega,rfl,by omega,fun e24 h24=>?_⟩
   obtain rfl:=(aV hy h24).symm
   refine ⟨aMa _ _,fun c2=>?_,fun c2=>?_⟩
   ·replace c2:=nq (nt c2)
    have hxy: ¬x=y:=by simpa using c2
    refine ⟨?_,trivial⟩
    ·first | (simp [uD hx hy hxy];done) | (simp [nA c0];done) | (simp [fS (by omega) hl ht];done)
   ·replace c2:=yq (nf c2)
    have hxy:x=y:=by simpa using c2
    refine ⟨⟨by omega,by omega⟩,?_⟩
    exact ⟨k+1,rfl,⟨by omega,lW hx (by rw [hy,hxy]) ht⟩,by omega⟩
  ·replace c1:=nq c1
   refine ⟨?_,trivial⟩
   ·first | (simp [uD hx hy hxy];done) | (simp [nA c0];done) | (simp [fS (by omega) hl ht];done)
theorem dE (a b:aG):decide (a=b)=(decide (a.name=b.name)&&(decide (a.arity=b.arity)&&(decide (a.rowCount=b.rowCount)&&decide (a.groups=b.groups)))):=by
 obtain ⟨a0,a1,a2,a3⟩:=a
 obtain ⟨b0,b1,b2,b3⟩:=b
 simp [Bool.and_assoc]
abbrev vT (a:aG) (b:aG):Prop:=dJ Tryz.prog 222 [.agg [.str a.name,.int .i64 a.arity,.int .i64 a.rowCount,.sl 218 3 (a.groups.map aC)],.agg [.str b.name,.int .i64 b.arity,.int .i64 b.rowCount,.sl 218 3 (b.groups.map aC)]] (vB (decide (a=b))) []
theorem aGb (a b:aG):vT a b:=by
 refine aZ bR aT Tryz.func222 (by kernel_rfl) (.br (.lit<| .lit<| .lit<| .lit<| .lit<| .br (.lit<| .lit<| .lit<| .lit<| .lit<| .br (.call (vB (decide (a.groups=b.groups))) []<| .fin []) (.fin [])) (.fin [])) (.fin [])) (p:=(a.groups.map aC).length≤9223372036854775807→(b.groups.map aC).length≤9223372036854775807→((a.name.toList==b.name.toList)=true→((decide (a.arity=b.arity))=true→((decide (a.rowCount=b.rowCount))=true→rD a.groups b.groups∧(decide (a.groups=b.groups))=(decide (a=b))∧True)∧((decide (a.rowCount=b.rowCount))=false→(false)=(decide (a=b))∧True))∧((decide (a.arity=b.arity))=false→(false)=(decide (a=b))∧True))∧((a.name.toList==b.name.toList)=false→(false)=(decide (a=b))∧True)) (by kernel_rfl) ?_
 intro n0 n1
 simp only [List.length_map] at n0 n1
 refine ⟨fun g10=>?_,fun g10=>?_⟩
 ·refine ⟨fun g17=>?_,fun g17=>?_⟩
  ·replace g17:=yq g17
   refine ⟨fun g24=>?_,fun g24=>?_⟩
   ·replace g24:=yq g24
    refine ⟨aCd _ _,?_,trivial⟩
    ·first | (rw [dE];done) | (rw [dE];simp_all [jH];done)
   ·replace g24:=nq g24
    refine ⟨?_,trivial⟩
    ·first | (rw [dE];done) | (rw [dE];simp_all [jH];done)
  ·replace g17:=nq g17
   refine ⟨?_,trivial⟩
   ·first | (rw [dE];done) | (rw [dE];simp_all [jH];done)
 ·refine ⟨?_,trivial⟩
  ·first | (rw [dE];done) | (rw [dE];simp_all [jH];done)
abbrev rE (l:List aG) (m:List aG):Prop:=dJ Tryz.prog 221 [.one (.sl 121 4 (l.map aA)),.one (.sl 121 4 (m.map aA)),.fn 222 []] (vB (decide (l=m))) []
theorem aCe (l m:List aG):rE l m:=by
 refine aZ bR aT Tryz.func221 (by kernel_rfl) (.len l.length<| .len m.length<| .br (.fin []) (.len l.length<| .loop Nat (Q1 Nat) [7,8,9,17,18,19,20,21,22,23,24,25,26,27,28,29,30,31] [800,900] (fun k=>[(17,vI (k:Int))]) (fun k=>[]) (fun k=>k≤l.length∧l.take k=m.take k) (fun k=>l.length - k) (fun k=> .br (.elem _ aA l (fun e20=> .elem _ aA m (fun e24=> .call (vB (decide (e20=e24))) []<| .br (.fin []) (.back [])))) (.fin [])))) (p:=(l.map aA).length≤9223372036854775807→(m.map aA).length≤9223372036854775807→Lm aA l∧(Lm aA m∧(((!(decide (((l.length:Nat):Int)=((m.length:Nat):Int))))=true→(false)=(decide (l=m))∧True)∧((!(decide (((l.length:Nat):Int)=((m.length:Nat):Int))))=false→Lm aA l∧((∃(k:Nat),(0:Int)=(k:Int)∧k≤l.length∧l.take k=m.take k)∧ ∀(k:Nat),(k≤l.length∧l.take k=m.take k)→((decide ((k:Int)<((l.length:Nat):Int)))=true→0≤(k:Int)∧Em aA l k fun e20=>0≤(k:Int)∧Em aA m k fun e24=>vT e20 e24∧(((!(decide (e20=e24)))=true→(false)=(decide (l=m))∧True)∧((!(decide (e20=e24)))=false→dO ((k:Int)+(1:Int))∧ ∃(k' :Nat),((k:Int)+(1:Int))=(k' :Int)∧(k' ≤l.length∧l.take k' =m.take k')∧l.length - k' <l.length - k)))∧((decide ((k:Int)<((l.length:Nat):Int)))=false→(true)=(decide (l=m))∧True)))))) (by kernel_rfl) ?_
 intro n0 n1
 simp only [List.length_map] at n0 n1
 refine ⟨List.length_map _,List.length_map _,fun c0=>?_,fun c0=>?_⟩
 ·replace c0:=nq (nt c0)
  refine ⟨?_,trivial⟩
  ·first | (simp [uD hx hy hxy];done) | (simp [nA c0];done) | (simp [fS (by omega) hl ht];done)
 ·replace c0:=yq (nf c0)
  have hl:l.length=m.length:=by omega
  refine ⟨List.length_map _,⟨0,rfl,Nat.zero_le _,rfl⟩,fun k ⟨hk,ht⟩=>?_⟩
  refine ⟨fun c1=>?_,fun c1=>?_⟩
  ·replace c1:=yq c1
   obtain ⟨x,hx⟩:=cE (l:=l) (k:=k) (by omega)
   obtain ⟨y,hy⟩:=cE (l:=m) (k:=k) (by omega)
   refine ⟨by omega,rfl,by omega,fun e20 h20=>?_⟩
   obtain rfl:=(aV hx h20).symm
   refine ⟨by omega,rfl,by omega,fun e24 h24=>?_⟩
   obtain rfl:=(aV hy h24).symm
   refine ⟨aGb _ _,fun c2=>?_,fun c2=>?_⟩
   ·replace c2:=nq (nt c2)
    have hxy: ¬x=y:=by simpa using c2
    refine ⟨?_,trivial⟩
    ·first | (simp [uD hx hy hxy];done) | (simp [nA c0];done) | (simp [fS (by omega) hl ht];done)
   ·replace c2:=yq (nf c2)
    have hxy:x=y:=by simpa using c2
    refine ⟨⟨by omega,by omega⟩,?_⟩
    exact ⟨k+1,rfl,⟨by omega,lW hx (by rw [hy,hxy]) ht⟩,by omega⟩
  ·replace c1:=nq c1
   refine ⟨?_,trivial⟩
   ·first | (simp [uD hx hy hxy];done) | (simp [nA c0];done) | (simp [fS (by omega) hl ht];done)
theorem gK (a b:cA):decide (a=b)=(decide (a.version=b.version)&&decide (a.tables=b.tables)):=by
 obtain ⟨a0,a1⟩:=a
 obtain ⟨b0,b1⟩:=b
 simp [Bool.and_assoc]
abbrev aAj (a:cA) (b:cA):Prop:=dJ Tryz.prog 147 [.agg [.int .i64 a.version,.sl 121 4 (a.tables.map aA)],.agg [.int .i64 b.version,.sl 121 4 (b.tables.map aA)]] (vB (decide (a=b))) []
theorem aJC (a b:cA):aAj a b:=by
 refine aZ bR aT Tryz.func147 (by kernel_rfl) (.br (.call (vB (decide (a.tables=b.tables))) []<| .fin []) (.fin [])) (p:=(a.tables.map aA).length≤9223372036854775807→(b.tables.map aA).length≤9223372036854775807→((decide (a.version=b.version))=true→rE a.tables b.tables∧(decide (a.tables=b.tables))=(decide (a=b))∧True)∧((decide (a.version=b.version))=false→(false)=(decide (a=b))∧True)) (by kernel_rfl) ?_
 intro n0 n1
 simp only [List.length_map] at n0 n1
 refine ⟨fun g10=>?_,fun g10=>?_⟩
 ·replace g10:=yq g10
  refine ⟨aCe _ _,?_,trivial⟩
  ·first | (rw [gK];done) | (rw [gK];simp_all [jH];done)
 ·replace g10:=nq g10
  refine ⟨?_,trivial⟩
  ·first | (rw [gK];done) | (rw [gK];simp_all [jH];done)
end Go.Proofs.YtokkjaflmcjlhaaGreat
