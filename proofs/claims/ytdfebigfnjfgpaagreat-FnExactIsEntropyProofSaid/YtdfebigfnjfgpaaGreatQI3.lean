/-
  Contracts and plain laws, joined: part 4.
-/
import Derived.Test.YtdfebigfnjfgpaaGreatQI2
import Derived.Laws.Strings
namespace Go.Proofs.YtdfebigfnjfgpaaGreat
open Go.ChangeShapes Go.WideShapes Go.ChangeAt Go.RowKit
set_option linter.unusedVariables false
set_option linter.unusedSimpArgs false
set_option maxRecDepth 100000
set_option maxHeartbeats 4000000
def tb:Tb:=⟨[(2,(false,1,8,.int .i64 0)),(3,(false,1,8,.int .i64 0)),(4,(false,1,1,.bool false)),(5,(false,1,1,.int .u8 0)),(6,(false,1,1,.int .u8 0)),(7,(true,4,24,.agg #[.int .i64 0,.int .i64 0,.bool false,.int .u8 0])),(8,(true,4,24,.agg #[.int .i64 0,.int .i64 0,.bool false,.int .u8 0])),(9,(false,1,16,.string ByteArray.empty)),(10,(false,1,16,.string ByteArray.empty)),(11,(false,1,16,.string ByteArray.empty)),(12,(false,1,8,.int .u64 0)),(13,(true,2,24,.agg #[.string ByteArray.empty,.int .u64 0])),(14,(true,2,24,.agg #[.string ByteArray.empty,.int .u64 0])),(21,(false,1,4,.int .i32 0)),(22,(false,1,24,.slice none 0 0)),(23,(true,1,24,.agg #[.slice none 0 0])),(24,(true,1,24,.agg #[.slice none 0 0])),(25,(false,1,24,.slice none 0 0)),(26,(true,2,32,.agg #[.int .i64 0,.slice none 0 0])),(27,(true,2,32,.agg #[.int .i64 0,.slice none 0 0])),(28,(false,1,24,.slice none 0 0)),(29,(false,1,24,.slice none 0 0)),(30,(true,5,104,.agg #[.slice none 0 0,.int .i64 0,.slice none 0 0,.slice none 0 0,.slice none 0 0])),(31,(true,5,104,.agg #[.slice none 0 0,.int .i64 0,.slice none 0 0,.slice none 0 0,.slice none 0 0])),(32,(false,1,24,.slice none 0 0)),(33,(true,2,32,.agg #[.int .i64 0,.slice none 0 0])),(34,(true,2,32,.agg #[.int .i64 0,.slice none 0 0])),(35,(false,1,24,.slice none 0 0)),(39,(false,1,24,.slice none 0 0)),(41,(false,1,24,.slice none 0 0)),(42,(true,1,24,.agg #[.slice none 0 0])),(43,(true,1,24,.agg #[.slice none 0 0])),(44,(false,1,24,.slice none 0 0)),(45,(true,2,32,.agg #[.int .i64 0,.slice none 0 0])),(46,(true,2,32,.agg #[.int .i64 0,.slice none 0 0])),(47,(false,1,24,.slice none 0 0)),(48,(false,1,24,.slice none 0 0)),(49,(true,5,104,.agg #[.slice none 0 0,.int .i64 0,.slice none 0 0,.slice none 0 0,.slice none 0 0])),(50,(true,5,104,.agg #[.slice none 0 0,.int .i64 0,.slice none 0 0,.slice none 0 0,.slice none 0 0])),(52,(false,1,24,.slice none 0 0)),(53,(true,2,32,.agg #[.int .i64 0,.slice none 0 0])),(54,(true,2,32,.agg #[.int .i64 0,.slice none 0 0])),(56,(false,1,24,.slice none 0 0)),(67,(true,2,16,.agg #[.int .i64 0,.int .i64 0])),(68,(true,2,16,.agg #[.int .i64 0,.int .i64 0])),(70,(true,2,16,.agg #[.int .i64 0,.int .i64 0])),(78,(false,1,24,.slice none 0 0)),(79,(true,3,72,.agg #[.slice none 0 0,.slice none 0 0,.slice none 0 0])),(80,(true,3,72,.agg #[.slice none 0 0,.slice none 0 0,.slice none 0 0])),(91,(false,1,24,.slice none 0 0)),(114,(true,3,48,.agg #[.string ByteArray.empty,.slice none 0 0,.int .i64 0])),(115,(true,3,48,.agg #[.string ByteArray.empty,.slice none 0 0,.int .i64 0])),(117,(true,4,48,.agg #[.string ByteArray.empty,.int .i64 0,.string ByteArray.empty,.int .i64 0])),(118,(true,4,48,.agg #[.string ByteArray.empty,.int .i64 0,.string ByteArray.empty,.int .i64 0])),(120,(true,2,40,.agg #[.string ByteArray.empty,.slice none 0 0])),(121,(true,2,40,.agg #[.string ByteArray.empty,.slice none 0 0])),(131,(true,3,48,.agg #[.string ByteArray.empty,.slice none 0 0,.int .i64 0])),(133,(true,4,48,.agg #[.string ByteArray.empty,.int .i64 0,.string ByteArray.empty,.int .i64 0])),(135,(true,2,40,.agg #[.string ByteArray.empty,.slice none 0 0])),(151,(true,3,48,.agg #[.string ByteArray.empty,.int .i64 0,.slice none 0 0])),(152,(true,3,48,.agg #[.string ByteArray.empty,.int .i64 0,.slice none 0 0])),(154,(false,1,24,.slice none 0 0)),(155,(true,4,56,.agg #[.string ByteArray.empty,.int .i64 0,.int .i64 0,.slice none 0 0])),(156,(true,4,56,.agg #[.string ByteArray.empty,.int .i64 0,.int .i64 0,.slice none 0 0])),(159,(false,1,24,.slice none 0 0)),(160,(true,4,56,.agg #[.string ByteArray.empty,.int .i64 0,.int .i64 0,.slice none 0 0])),(161,(true,4,56,.agg #[.string ByteArray.empty,.int .i64 0,.int .i64 0,.slice none 0 0])),(163,(true,3,24,.agg #[.int .i64 0,.int .i64 0,.int .i64 0])),(164,(true,3,24,.agg #[.int .i64 0,.int .i64 0,.int .i64 0])),(167,(true,3,48,.agg #[.string ByteArray.empty,.int .i64 0,.slice none 0 0])),(180,(false,1,24,.slice none 0 0)),(202,(true,3,72,.agg #[.slice none 0 0,.slice none 0 0,.slice none 0 0])),(203,(true,3,72,.agg #[.slice none 0 0,.slice none 0 0,.slice none 0 0])),(206,(true,3,72,.agg #[.slice none 0 0,.slice none 0 0,.slice none 0 0])),(215,(false,1,24,.slice none 0 0)),(239,(false,1,8,.int .u64 0)),(242,(false,1,8,.int .i64 0)),(251,(false,1,4,.int .u32 0)),(253,(false,1,8,.int .u64 0)),(259,(false,1,8,.int .u64 0)),(276,(true,0,0,.agg #[])),(277,(true,0,0,.agg #[])),(279,(false,1,1,.int .u8 0)),(280,(false,1,1,.int .u8 0)),(283,(false,1,4,.int .i32 0)),(284,(false,1,4,.int .i32 0))],
 [(22,152),(25,156),(28,115),(29,118),(32,121),(35,68),(39,3),(41,167),(44,161),(47,131),(48,133),(52,135),(56,70),(78,39),(91,164),(154,206),(159,203),(180,5),(215,4)],
 [(7,[(0,(0,2)),(1,(1,3)),(2,(2,4)),(3,(3,6))]),(8,[(0,(0,2)),(1,(1,3)),(2,(2,4)),(3,(3,6))]),(13,[(0,(0,9)),(1,(1,12))]),(14,[(0,(0,9)),(1,(1,12))]),(23,[(0,(0,22))]),(24,[(0,(0,22))]),(26,[(0,(0,3)),(1,(1,25))]),(27,[(0,(0,3)),(1,(1,25))]),(30,[(0,(0,24)),(1,(1,27)),(2,(3,28)),(3,(4,29))]),(31,[(0,(0,24)),(1,(1,27)),(2,(3,28)),(3,(4,29))]),(33,[(0,(0,3)),(1,(1,32))]),(34,[(0,(0,3)),(1,(1,32))]),(42,[(0,(0,41))]),(43,[(0,(0,41))]),(45,[(0,(0,3)),(1,(1,44))]),(46,[(0,(0,3)),(1,(1,44))]),(49,[(0,(0,43)),(1,(1,46)),(2,(3,47)),(3,(4,48))]),(50,[(0,(0,43)),(1,(1,46)),(2,(3,47)),(3,(4,48))]),(53,[(0,(0,3)),(1,(1,52))]),(54,[(0,(0,3)),(1,(1,52))]),(67,[(0,(0,3)),(1,(1,3))]),(68,[(0,(0,3)),(1,(1,3))]),(70,[(0,(0,3)),(1,(1,3))]),(79,[(0,(0,39)),(1,(1,78)),(2,(2,39))]),(80,[(0,(0,39)),(1,(1,78)),(2,(2,39))]),(114,[(0,(0,9)),(1,(1,39)),(2,(2,3))]),(115,[(0,(0,9)),(1,(1,39)),(2,(2,3))]),(117,[(0,(0,9)),(1,(1,3)),(2,(2,9)),(3,(3,3))]),(118,[(0,(0,9)),(1,(1,3)),(2,(2,9)),(3,(3,3))]),(120,[(0,(0,9)),(1,(1,39))]),(121,[(0,(0,9)),(1,(1,39))]),(131,[(0,(0,9)),(1,(1,39)),(2,(2,3))]),(133,[(0,(0,9)),(1,(1,3)),(2,(2,9)),(3,(3,3))]),(135,[(0,(0,9)),(1,(1,39))]),(151,[(0,(0,9)),(1,(1,3)),(2,(2,78))]),(152,[(0,(0,9)),(1,(1,3)),(2,(2,78))]),(155,[(0,(0,9)),(1,(1,3)),(2,(2,3)),(3,(3,154))]),(156,[(0,(0,9)),(1,(1,3)),(2,(2,3)),(3,(3,154))]),(160,[(0,(0,9)),(1,(1,3)),(2,(2,3)),(3,(3,159))]),(161,[(0,(0,9)),(1,(1,3)),(2,(2,3)),(3,(3,159))]),(163,[(0,(0,3)),(1,(1,3)),(2,(2,3))]),(164,[(0,(0,3)),(1,(1,3)),(2,(2,3))]),(167,[(0,(0,9)),(1,(1,3)),(2,(2,78))]),(202,[(0,(0,39)),(1,(1,78)),(2,(2,39))]),(203,[(0,(0,39)),(1,(1,78)),(2,(2,39))]),(206,[(0,(0,39)),(1,(1,78)),(2,(2,39))]),(276,[]),(277,[])],
 [(7,(.agg #[.int .i64 0,.int .i64 0,.bool false,.int .u8 0],[(0,1),(1,1),(2,1),(3,1)])),(8,(.agg #[.int .i64 0,.int .i64 0,.bool false,.int .u8 0],[(0,1),(1,1),(2,1),(3,1)])),(13,(.agg #[.string ByteArray.empty,.int .u64 0],[(0,1),(1,1)])),(14,(.agg #[.string ByteArray.empty,.int .u64 0],[(0,1),(1,1)])),(23,(.agg #[.slice none 0 0],[(0,1)])),(24,(.agg #[.slice none 0 0],[(0,1)])),(26,(.agg #[.int .i64 0,.slice none 0 0],[(0,1),(1,1)])),(27,(.agg #[.int .i64 0,.slice none 0 0],[(0,1),(1,1)])),(30,(.agg #[.slice none 0 0,.int .i64 0,.slice none 0 0,.slice none 0 0,.slice none 0 0],[(0,1),(1,2),(3,1),(4,1)])),(31,(.agg #[.slice none 0 0,.int .i64 0,.slice none 0 0,.slice none 0 0,.slice none 0 0],[(0,1),(1,2),(3,1),(4,1)])),(33,(.agg #[.int .i64 0,.slice none 0 0],[(0,1),(1,1)])),(34,(.agg #[.int .i64 0,.slice none 0 0],[(0,1),(1,1)])),(42,(.agg #[.slice none 0 0],[(0,1)])),(43,(.agg #[.slice none 0 0],[(0,1)])),(45,(.agg #[.int .i64 0,.slice none 0 0],[(0,1),(1,1)])),(46,(.agg #[.int .i64 0,.slice none 0 0],[(0,1),(1,1)])),(49,(.agg #[.slice none 0 0,.int .i64 0,.slice none 0 0,.slice none 0 0,.slice none 0 0],[(0,1),(1,2),(3,1),(4,1)])),(50,(.agg #[.slice none 0 0,.int .i64 0,.slice none 0 0,.slice none 0 0,.slice none 0 0],[(0,1),(1,2),(3,1),(4,1)])),(53,(.agg #[.int .i64 0,.slice none 0 0],[(0,1),(1,1)])),(54,(.agg #[.int .i64 0,.slice none 0 0],[(0,1),(1,1)])),(67,(.agg #[.int .i64 0,.int .i64 0],[(0,1),(1,1)])),(68,(.agg #[.int .i64 0,.int .i64 0],[(0,1),(1,1)])),(70,(.agg #[.int .i64 0,.int .i64 0],[(0,1),(1,1)])),(79,(.agg #[.slice none 0 0,.slice none 0 0,.slice none 0 0],[(0,1),(1,1),(2,1)])),(80,(.agg #[.slice none 0 0,.slice none 0 0,.slice none 0 0],[(0,1),(1,1),(2,1)])),(114,(.agg #[.string ByteArray.empty,.slice none 0 0,.int .i64 0],[(0,1),(1,1),(2,1)])),(115,(.agg #[.string ByteArray.empty,.slice none 0 0,.int .i64 0],[(0,1),(1,1),(2,1)])),(117,(.agg #[.string ByteArray.empty,.int .i64 0,.string ByteArray.empty,.int .i64 0],[(0,1),(1,1),(2,1),(3,1)])),(118,(.agg #[.string ByteArray.empty,.int .i64 0,.string ByteArray.empty,.int .i64 0],[(0,1),(1,1),(2,1),(3,1)])),(120,(.agg #[.string ByteArray.empty,.slice none 0 0],[(0,1),(1,1)])),(121,(.agg #[.string ByteArray.empty,.slice none 0 0],[(0,1),(1,1)])),(131,(.agg #[.string ByteArray.empty,.slice none 0 0,.int .i64 0],[(0,1),(1,1),(2,1)])),(133,(.agg #[.string ByteArray.empty,.int .i64 0,.string ByteArray.empty,.int .i64 0],[(0,1),(1,1),(2,1),(3,1)])),(135,(.agg #[.string ByteArray.empty,.slice none 0 0],[(0,1),(1,1)])),(151,(.agg #[.string ByteArray.empty,.int .i64 0,.slice none 0 0],[(0,1),(1,1),(2,1)])),(152,(.agg #[.string ByteArray.empty,.int .i64 0,.slice none 0 0],[(0,1),(1,1),(2,1)])),(155,(.agg #[.string ByteArray.empty,.int .i64 0,.int .i64 0,.slice none 0 0],[(0,1),(1,1),(2,1),(3,1)])),(156,(.agg #[.string ByteArray.empty,.int .i64 0,.int .i64 0,.slice none 0 0],[(0,1),(1,1),(2,1),(3,1)])),(160,(.agg #[.string ByteArray.empty,.int .i64 0,.int .i64 0,.slice none 0 0],[(0,1),(1,1),(2,1),(3,1)])),(161,(.agg #[.string ByteArray.empty,.int .i64 0,.int .i64 0,.slice none 0 0],[(0,1),(1,1),(2,1),(3,1)])),(163,(.agg #[.int .i64 0,.int .i64 0,.int .i64 0],[(0,1),(1,1),(2,1)])),(164,(.agg #[.int .i64 0,.int .i64 0,.int .i64 0],[(0,1),(1,1),(2,1)])),(167,(.agg #[.string ByteArray.empty,.int .i64 0,.slice none 0 0],[(0,1),(1,1),(2,1)])),(202,(.agg #[.slice none 0 0,.slice none 0 0,.slice none 0 0],[(0,1),(1,1),(2,1)])),(203,(.agg #[.slice none 0 0,.slice none 0 0,.slice none 0 0],[(0,1),(1,1),(2,1)])),(206,(.agg #[.slice none 0 0,.slice none 0 0,.slice none 0 0],[(0,1),(1,1),(2,1)])),(276,(.agg #[],[(0,0)])),(277,(.agg #[],[(0,0)]))],
 [(4,())],
 [(9,()),(10,()),(11,())],
 [(2,.i64),(3,.i64),(5,.u8),(6,.u8),(12,.u64),(21,.i32),(239,.u64),(242,.i64),(251,.u32),(253,.u64),(259,.u64),(279,.u8),(280,.u8),(283,.i32),(284,.i32)],
 [(70,[0,0]),(133,[2,0,2,0]),(164,[0,0,0])]⟩
theorem fc {α:Type} {p:Nat→α→Prop} {k:Nat} {v:α} {l:List (Nat × α)} (h:p k v) (t:oN p l):oN p ((k,v)::l):=⟨h,t⟩
theorem aL:Tryz.prog.follows .mixedOrders=true:=by kernel_rfl
set_option maxRecDepth 100000 in
theorem bE:mC Tryz.prog tb:=
 ⟨(fc (by kernel_rfl)<| fc (by kernel_rfl)<| fc (by kernel_rfl)<| fc (by kernel_rfl)<| fc (by kernel_rfl)<| fc (by kernel_rfl)<| fc (by kernel_rfl)<| fc (by kernel_rfl)<| fc (by kernel_rfl)<| fc (by kernel_rfl)<| fc (by kernel_rfl)<| fc (by kernel_rfl)<| fc (by kernel_rfl)<| fc (by kernel_rfl)<| fc (by kernel_rfl)<| fc (by kernel_rfl)<| fc (by kernel_rfl)<| fc (by kernel_rfl)<| fc (by kernel_rfl)<| fc (by kernel_rfl)<| fc (by kernel_rfl)<| fc (by kernel_rfl)<| fc (by kernel_rfl)<| fc (by kernel_rfl)<| fc (by kernel_rfl)<| fc (by kernel_rfl)<| fc (by kernel_rfl)<| fc (by kernel_rfl)<| fc (by kernel_rfl)<| fc (by kernel_rfl)<| fc (by kernel_rfl)<| fc (by kernel_rfl)<| fc (by kernel_rfl)<| fc (by kernel_rfl)<| fc (by kernel_rfl)<| fc (by kernel_rfl)<| fc (by kernel_rfl)<| fc (by kernel_rfl)<| fc (by kernel_rfl)<| fc (by kernel_rfl)<| fc (by kernel_rfl)<| fc (by kernel_rfl)<| fc (by kernel_rfl)<| fc (by kernel_rfl)<| fc (by kernel_rfl)<| fc (by kernel_rfl)<| fc (by kernel_rfl)<| fc (by kernel_rfl)<| fc (by kernel_rfl)<| fc (by kernel_rfl)<| fc (by kernel_rfl)<| fc (by kernel_rfl)<| fc (by kernel_rfl)<| fc (by kernel_rfl)<| fc (by kernel_rfl)<| fc (by kernel_rfl)<| fc (by kernel_rfl)<| fc (by kernel_rfl)<| fc (by kernel_rfl)<| fc (by kernel_rfl)<| fc (by kernel_rfl)<| fc (by kernel_rfl)<| fc (by kernel_rfl)<| fc (by kernel_rfl)<| fc (by kernel_rfl)<| fc (by kernel_rfl)<| fc (by kernel_rfl)<| fc (by kernel_rfl)<| fc (by kernel_rfl)<| fc (by kernel_rfl)<| fc (by kernel_rfl)<| fc (by kernel_rfl)<| fc (by kernel_rfl)<| fc (by kernel_rfl)<| fc (by kernel_rfl)<| fc (by kernel_rfl)<| fc (by kernel_rfl)<| fc (by kernel_rfl)<| fc (by kernel_rfl)<| fc (by kernel_rfl)<| fc (by kernel_rfl)<| fc (by kernel_rfl)<| fc (by kernel_rfl)<| fc (by kernel_rfl)<| fc (by kernel_rfl)<| fc (by kernel_rfl)<| trivial),
  (fc (by kernel_rfl)<| fc (by kernel_rfl)<| fc (by kernel_rfl)<| fc (by kernel_rfl)<| fc (by kernel_rfl)<| fc (by kernel_rfl)<| fc (by kernel_rfl)<| fc (by kernel_rfl)<| fc (by kernel_rfl)<| fc (by kernel_rfl)<| fc (by kernel_rfl)<| fc (by kernel_rfl)<| fc (by kernel_rfl)<| fc (by kernel_rfl)<| fc (by kernel_rfl)<| fc (by kernel_rfl)<| fc (by kernel_rfl)<| fc (by kernel_rfl)<| fc (by kernel_rfl)<| trivial),
  (fc (fc (by kernel_rfl)<| fc (by kernel_rfl)<| fc (by kernel_rfl)<| fc (by kernel_rfl)<| trivial)<| fc (fc (by kernel_rfl)<| fc (by kernel_rfl)<| fc (by kernel_rfl)<| fc (by kernel_rfl)<| trivial)<| fc (fc (by kernel_rfl)<| fc (by kernel_rfl)<| trivial)<| fc (fc (by kernel_rfl)<| fc (by kernel_rfl)<| trivial)<| fc (fc (by kernel_rfl)<| trivial)<| fc (fc (by kernel_rfl)<| trivial)<| fc (fc (by kernel_rfl)<| fc (by kernel_rfl)<| trivial)<| fc (fc (by kernel_rfl)<| fc (by kernel_rfl)<| trivial)<| fc (fc (by kernel_rfl)<| fc (by kernel_rfl)<| fc (by kernel_rfl)<| fc (by kernel_rfl)<| trivial)<| fc (fc (by kernel_rfl)<| fc (by kernel_rfl)<| fc (by kernel_rfl)<| fc (by kernel_rfl)<| trivial)<| fc (fc (by kernel_rfl)<| fc (by kernel_rfl)<| trivial)<| fc (fc (by kernel_rfl)<| fc (by kernel_rfl)<| trivial)<| fc (fc (by kernel_rfl)<| trivial)<| fc (fc (by kernel_rfl)<| trivial)<| fc (fc (by kernel_rfl)<| fc (by kernel_rfl)<| trivial)<| fc (fc (by kernel_rfl)<| fc (by kernel_rfl)<| trivial)<| fc (fc (by kernel_rfl)<| fc (by kernel_rfl)<| fc (by kernel_rfl)<| fc (by kernel_rfl)<| trivial)<| fc (fc (by kernel_rfl)<| fc (by kernel_rfl)<| fc (by kernel_rfl)<| fc (by kernel_rfl)<| trivial)<| fc (fc (by kernel_rfl)<| fc (by kernel_rfl)<| trivial)<| fc (fc (by kernel_rfl)<| fc (by kernel_rfl)<| trivial)<| fc (fc (by kernel_rfl)<| fc (by kernel_rfl)<| trivial)<| fc (fc (by kernel_rfl)<| fc (by kernel_rfl)<| trivial)<| fc (fc (by kernel_rfl)<| fc (by kernel_rfl)<| trivial)<| fc (fc (by kernel_rfl)<| fc (by kernel_rfl)<| fc (by kernel_rfl)<| trivial)<| fc (fc (by kernel_rfl)<| fc (by kernel_rfl)<| fc (by kernel_rfl)<| trivial)<| fc (fc (by kernel_rfl)<| fc (by kernel_rfl)<| fc (by kernel_rfl)<| trivial)<| fc (fc (by kernel_rfl)<| fc (by kernel_rfl)<| fc (by kernel_rfl)<| trivial)<| fc (fc (by kernel_rfl)<| fc (by kernel_rfl)<| fc (by kernel_rfl)<| fc (by kernel_rfl)<| trivial)<| fc (fc (by kernel_rfl)<| fc (by kernel_rfl)<| fc (by kernel_rfl)<| fc (by kernel_rfl)<| trivial)<| fc (fc (by kernel_rfl)<| fc (by kernel_rfl)<| trivial)<| fc (fc (by kernel_rfl)<| fc (by kernel_rfl)<| trivial)<| fc (fc (by kernel_rfl)<| fc (by kernel_rfl)<| fc (by kernel_rfl)<| trivial)<| fc (fc (by kernel_rfl)<| fc (by kernel_rfl)<| fc (by kernel_rfl)<| fc (by kernel_rfl)<| trivial)<| fc (fc (by kernel_rfl)<| fc (by kernel_rfl)<| trivial)<| fc (fc (by kernel_rfl)<| fc (by kernel_rfl)<| fc (by kernel_rfl)<| trivial)<| fc (fc (by kernel_rfl)<| fc (by kernel_rfl)<| fc (by kernel_rfl)<| trivial)<| fc (fc (by kernel_rfl)<| fc (by kernel_rfl)<| fc (by kernel_rfl)<| fc (by kernel_rfl)<| trivial)<| fc (fc (by kernel_rfl)<| fc (by kernel_rfl)<| fc (by kernel_rfl)<| fc (by kernel_rfl)<| trivial)<| fc (fc (by kernel_rfl)<| fc (by kernel_rfl)<| fc (by kernel_rfl)<| fc (by kernel_rfl)<| trivial)<| fc (fc (by kernel_rfl)<| fc (by kernel_rfl)<| fc (by kernel_rfl)<| fc (by kernel_rfl)<| trivial)<| fc (fc (by kernel_rfl)<| fc (by kernel_rfl)<| fc (by kernel_rfl)<| trivial)<| fc (fc (by kernel_rfl)<| fc (by kernel_rfl)<| fc (by kernel_rfl)<| trivial)<| fc (fc (by kernel_rfl)<| fc (by kernel_rfl)<| fc (by kernel_rfl)<| trivial)<| fc (fc (by kernel_rfl)<| fc (by kernel_rfl)<| fc (by kernel_rfl)<| trivial)<| fc (fc (by kernel_rfl)<| fc (by kernel_rfl)<| fc (by kernel_rfl)<| trivial)<| fc (fc (by kernel_rfl)<| fc (by kernel_rfl)<| fc (by kernel_rfl)<| trivial)<| fc (trivial)<| fc (trivial)<| trivial),
  (fc (by kernel_rfl)<| fc (by kernel_rfl)<| fc (by kernel_rfl)<| fc (by kernel_rfl)<| fc (by kernel_rfl)<| fc (by kernel_rfl)<| fc (by kernel_rfl)<| fc (by kernel_rfl)<| fc (by kernel_rfl)<| fc (by kernel_rfl)<| fc (by kernel_rfl)<| fc (by kernel_rfl)<| fc (by kernel_rfl)<| fc (by kernel_rfl)<| fc (by kernel_rfl)<| fc (by kernel_rfl)<| fc (by kernel_rfl)<| fc (by kernel_rfl)<| fc (by kernel_rfl)<| fc (by kernel_rfl)<| fc (by kernel_rfl)<| fc (by kernel_rfl)<| fc (by kernel_rfl)<| fc (by kernel_rfl)<| fc (by kernel_rfl)<| fc (by kernel_rfl)<| fc (by kernel_rfl)<| fc (by kernel_rfl)<| fc (by kernel_rfl)<| fc (by kernel_rfl)<| fc (by kernel_rfl)<| fc (by kernel_rfl)<| fc (by kernel_rfl)<| fc (by kernel_rfl)<| fc (by kernel_rfl)<| fc (by kernel_rfl)<| fc (by kernel_rfl)<| fc (by kernel_rfl)<| fc (by kernel_rfl)<| fc (by kernel_rfl)<| fc (by kernel_rfl)<| fc (by kernel_rfl)<| fc (by kernel_rfl)<| fc (by kernel_rfl)<| fc (by kernel_rfl)<| fc (by kernel_rfl)<| fc (by kernel_rfl)<| fc (by kernel_rfl)<| trivial),
  (fc (by kernel_rfl)<| trivial),
  (fc (by kernel_rfl)<| fc (by kernel_rfl)<| fc (by kernel_rfl)<| trivial),
  (fc (by kernel_rfl)<| fc (by kernel_rfl)<| fc (by kernel_rfl)<| fc (by kernel_rfl)<| fc (by kernel_rfl)<| fc (by kernel_rfl)<| fc (by kernel_rfl)<| fc (by kernel_rfl)<| fc (by kernel_rfl)<| fc (by kernel_rfl)<| fc (by kernel_rfl)<| fc (by kernel_rfl)<| fc (by kernel_rfl)<| fc (by kernel_rfl)<| fc (by kernel_rfl)<| trivial),
  (fc (by kernel_rfl)<| fc (by kernel_rfl)<| fc (by kernel_rfl)<| trivial)⟩
end Go.Proofs.YtdfebigfnjfgpaaGreat
namespace Go.Proofs.YtdfebigfnjfgpaaGreat
open Go.ChangeShapes Go.WideShapes Go.ChangeAt Go.RowKit
set_option linter.unusedVariables false
set_option linter.unusedSimpArgs false
set_option maxRecDepth 100000
set_option maxHeartbeats 4000000
abbrev bV (p:AV × List (Nat × Rs)) (t:T):T:= .call p.1 p.2 t
abbrev aQ0 (p:List AV × List (Nat × Rs) × AV × List (Nat × Rs)) (r:List (Nat × Nat)) (t:T):T:= .callx p.1 p.2.1 r p.2.2.1 p.2.2.2 t
theorem yq {p:Prop} [Decidable p] (h:decide p=true):p:=of_decide_eq_true h
theorem nq {p:Prop} [Decidable p] (h:decide p=false): ¬p:=of_decide_eq_false h
abbrev Em {α:Type} (enc:α→List bP) (l:List α) (i:Nat) (P:α→Prop):Prop:=l.map enc=l.map enc∧i<l.length∧ ∀x,l[i]? =some x→P x
abbrev Lm {α:Type} (enc:α→List bP) (l:List α):Prop:=(l.map enc).length=l.length
def kJ (b:Bool):List bP:=[.bool b]
def aOO (s:ByteArray):Prop:=s.size≤maxLen
theorem aSg {A:Nat→Prop} {w:World} {s:ByteArray}:jA A w (.str s) (.string s):=by unfold jA;rfl
theorem rdOne {A:Nat→Prop} {w:World} {d:bP} {v:Value} (h:jS A w [d] [v]):jA A w d v:=by
 obtain ⟨u,us,e,h1,_⟩:=h
 injection e with e1
 subst e1;exact h1
theorem rdI {w:World} {c:Value} {n:Int} (h:aNc w [c] n):jA (Lv w) w (.int .i64 n) c:=by
 have e:=h.1
 simp at e
 subst e;exact rdV_int
theorem rdS {w:World} {c:Value} {s:ByteArray} (h:aTM w [c] s):jA (Lv w) w (.str s) c:=by
 have e:=h.1
 simp at e
 subst e;exact aSg
theorem jH {n:Nat} {m:Int} (h: ¬aJ n m<0):(n:Int)≤m:=by
 unfold aJ at h
 split at h
 ·assumption
 ·omega
theorem kG {n:Nat} {m:Int} (h:aJ n m<0): ¬(n:Int)≤m:=by
 unfold aJ at h
 split at h
 ·omega
 ·assumption
theorem mD {α:Type} {l:List α} {k:Nat} {x z:α} (h:l[k]? =some x):(l.take k++List.replicate (l.length - k) z).set k x=l.take (k+1)++List.replicate (l.length - (k+1)) z:=by
 have hk:k<l.length:=(List.getElem?_eq_some_iff.1 h).1
 rw [show l.length - k=(l.length - (k+1))+1 by omega,List.replicate_succ,List.set_append_right _ _ (by simp;omega),bO h]
 simp [show k - min k l.length=0 by omega]
theorem nV {α:Type} {l:List α} {k:Nat} {z:α} (h:k≤l.length):(l.take k++List.replicate (l.length - k) z).length=l.length:=by simp;omega
theorem mE {α:Type} {l:List α} {k:Nat} {z:α} (h:k≤l.length) (h' : ¬k<l.length):l.take k++List.replicate (l.length - k) z=l:=by
 rw [show k=l.length by omega];simp
theorem aUG {α:Type} {l:List α} {i:Nat} {x y:α} (h:(l.set i y)[i]? =some x):x=y:=by
 rw [List.getElem?_set_self'] at h
 cases hl:l[i]? with
 | none=>simp [hl] at h
 | some z=>simp [hl] at h;exact h.symm
theorem dG {α:Type} {l:List α} {k:Nat} (h:k<l.length): ∃x,l[k]? =some x:=⟨_,List.getElem?_eq_getElem h⟩
def aA (l:List Int):List bP:=[.sl 3 1 (l.map intD)]
def aDb (l:List Int):Prop:= ∀x∈l,Fits x
def cG (l:List Int):Nat:=l.length
theorem aI4 (l:List Int):l.length≤cG l:=Nat.le_refl _
def aUH (l:List (List Int)):List bP:=[.sl 39 1 (l.map aA)]
def aFj (l:List (List Int)):Prop:= ∀x∈l,aDb x
def cX (l:List (List Int)):Nat:=aBf cG l
theorem gG (l:List (List Int)):l.length≤cX l:=rC _ l
theorem nC {l:List (List Int)} {k:Nat} {y:List Int} (h:l[k]? =some y):cG y≤cX l:=rD _ h
structure aV where
 name:ByteArray
 arity:Int
 rows:List (List Int)
 deriving DecidableEq
def aR (x:aV):List bP:=[.str x.name,.int .i64 x.arity,.sl 39 1 (x.rows.map aA)]
def aMJ (x:aV):Prop:=aOO x.name∧Fits x.arity∧aFj x.rows
def gW (x:aV):Nat:=ByteArray.size x.name+cX x.rows
def hZ:aV:=⟨ByteArray.empty,(0:Int),[]⟩
def aSh (l:List aV):List bP:=[.sl 167 3 (l.map aR)]
def aEw (l:List aV):Prop:= ∀x∈l,aMJ x
def kX (l:List aV):Nat:=aBf gW l
theorem aDc (l:List aV):l.length≤kX l:=rC _ l
theorem aAs {l:List aV} {k:Nat} {y:aV} (h:l[k]? =some y):gW y≤kX l:=rD _ h
structure aS where
 tables:List aV
 deriving DecidableEq
def aOP (x:aS):List bP:=[.sl 167 3 (x.tables.map aR)]
def aDB (x:aS):Prop:=aEw x.tables
def bN (x:aS):Nat:=kX x.tables
structure dS where
 name:ByteArray
 vars:List Int
 deriving DecidableEq
def bH (x:dS):List bP:=[.str x.name,.sl 3 1 (x.vars.map intD)]
def aQ1 (x:dS):Prop:=aOO x.name∧aDb x.vars
def kK (x:dS):Nat:=ByteArray.size x.name+cG x.vars
def jI:dS:=⟨ByteArray.empty,[]⟩
def aUI (l:List dS):List bP:=[.sl 135 2 (l.map bH)]
def aJ2 (l:List dS):Prop:= ∀x∈l,aQ1 x
def kY (l:List dS):Nat:=aBf kK l
theorem aFk (l:List dS):l.length≤kY l:=rC _ l
theorem aDC {l:List dS} {k:Nat} {y:dS} (h:l[k]? =some y):kK y≤kY l:=rD _ h
structure QueryD where
 variableCount:Int
 atoms:List dS
 deriving DecidableEq
def aUJ (x:QueryD):List bP:=[.int .i64 x.variableCount,.sl 135 2 (x.atoms.map bH)]
def aMK (x:QueryD):Prop:=Fits x.variableCount∧aJ2 x.atoms
def iJ (x:QueryD):Nat:=kY x.atoms
structure aP where
 columns:List Int
 values:List (List Int)
 counts:List Int
 deriving DecidableEq
def aB (x:aP):List bP:=[.sl 3 1 (x.columns.map intD),.sl 39 1 (x.values.map aA),.sl 3 1 (x.counts.map intD)]
def xP (x:aP):Prop:=aDb x.columns∧aFj x.values∧aDb x.counts
def cA (x:aP):Nat:=cG x.columns+cX x.values+cG x.counts
def fC:aP:=⟨[],[],[]⟩
def aJ3 (l:List aP):List bP:=[.sl 203 3 (l.map aB)]
def qM (l:List aP):Prop:= ∀x∈l,xP x
def dY (l:List aP):Nat:=aBf cA l
theorem iA (l:List aP):l.length≤dY l:=rC _ l
theorem iT {l:List aP} {k:Nat} {y:aP} (h:l[k]? =some y):cA y≤dY l:=rD _ h
structure aH where
 name:ByteArray
 arity:Int
 rowCount:Int
 groups:List aP
 deriving DecidableEq
def aE (x:aH):List bP:=[.str x.name,.int .i64 x.arity,.int .i64 x.rowCount,.sl 203 3 (x.groups.map aB)]
def xQ (x:aH):Prop:=aOO x.name∧Fits x.arity∧Fits x.rowCount∧qM x.groups
def bA (x:aH):Nat:=ByteArray.size x.name+dY x.groups
def eE:aH:=⟨ByteArray.empty,(0:Int),(0:Int),[]⟩
def aJ4 (l:List aH):List bP:=[.sl 161 4 (l.map aE)]
def qN (l:List aH):Prop:= ∀x∈l,xQ x
def eM (l:List aH):Nat:=aBf bA l
theorem tS (l:List aH):l.length≤eM l:=rC _ l
theorem lE {l:List aH} {k:Nat} {y:aH} (h:l[k]? =some y):bA y≤eM l:=rD _ h
structure cU where
 version:Int
 tables:List aH
 deriving DecidableEq
def aML (x:cU):List bP:=[.int .i64 x.version,.sl 161 4 (x.tables.map aE)]
def aAt (x:cU):Prop:=Fits x.version∧qN x.tables
def bT (x:cU):Nat:=eM x.tables
def aFl:cU:=⟨(0:Int),[]⟩
structure aX where
 name:ByteArray
 src:List Int
 dst:Int
 deriving DecidableEq
def aM (x:aX):List bP:=[.str x.name,.sl 3 1 (x.src.map intD),.int .i64 x.dst]
def xR (x:aX):Prop:=aOO x.name∧aDb x.src∧Fits x.dst
def dK (x:aX):Nat:=ByteArray.size x.name+cG x.src
def fX:aX:=⟨ByteArray.empty,[],(0:Int)⟩
def aJ5 (l:List aX):List bP:=[.sl 131 3 (l.map aM)]
def qO (l:List aX):Prop:= ∀x∈l,xR x
def cH (l:List aX):Nat:=aBf dK l
theorem tT (l:List aX):l.length≤cH l:=rC _ l
theorem aEc {l:List aX} {k:Nat} {y:aX} (h:l[k]? =some y):dK y≤cH l:=rD _ h
structure aW where
 name:ByteArray
 column:Int
 into:ByteArray
 intoColumn:Int
 deriving DecidableEq
def aQ (x:aW):List bP:=[.str x.name,.int .i64 x.column,.str x.into,.int .i64 x.intoColumn]
def aAu (x:aW):Prop:=aOO x.name∧Fits x.column∧aOO x.into∧Fits x.intoColumn
def dZ (x:aW):Nat:=ByteArray.size x.name+ByteArray.size x.into
def fU:aW:=⟨ByteArray.empty,(0:Int),ByteArray.empty,(0:Int)⟩
def aKg (l:List aW):List bP:=[.sl 133 4 (l.map aQ)]
def sM (l:List aW):Prop:= ∀x∈l,aAu x
def dL (l:List aW):Nat:=aBf dZ l
theorem fP (l:List aW):l.length≤dL l:=rC _ l
theorem aFm {l:List aW} {k:Nat} {y:aW} (h:l[k]? =some y):dZ y≤dL l:=rD _ h
structure StoreD where
 database:aS
 catalogue:cU
 dependencies:List aX
 inclusions:List aW
 deriving DecidableEq
def aUK (x:StoreD):List bP:=[.sl 167 3 (x.database.tables.map aR),.int .i64 x.catalogue.version,.sl 161 4 (x.catalogue.tables.map aE),.sl 131 3 (x.dependencies.map aM),.sl 133 4 (x.inclusions.map aQ)]
def aMM (x:StoreD):Prop:=aDB x.database∧aAt x.catalogue∧qO x.dependencies∧sM x.inclusions
def eG (x:StoreD):Nat:=bN x.database+bT x.catalogue+cH x.dependencies+dL x.inclusions
structure aD where
 src:Int
 dst:Int
 bits:Int
 deriving DecidableEq
def aC (x:aD):List bP:=[.int .i64 x.src,.int .i64 x.dst,.int .i64 x.bits]
def aEd (x:aD):Prop:=Fits x.src∧Fits x.dst∧Fits x.bits
def oR (l:List aD):Prop:= ∀x∈l,aEd x
structure RationalD where
 num:Int
 den:Int
 deriving DecidableEq
def aU (x:RationalD):List bP:=[.int .i64 x.num,.int .i64 x.den]
def aDD (x:RationalD):Prop:=Fits x.num∧Fits x.den
def jW:RationalD:=⟨(0:Int),(0:Int)⟩
def aMN (l:List RationalD):List bP:=[.sl 70 2 (l.map aU)]
def uU (l:List RationalD):Prop:= ∀x∈l,aDD x
def jJ (l:List RationalD):Nat:=l.length
theorem xS (l:List RationalD):l.length≤jJ l:=Nat.le_refl _
structure cM where
 objective:List Int
 rows:List (List Int)
 limits:List Int
 deriving DecidableEq
def xT (x:cM):Nat:=cG x.objective+cX x.rows+cG x.limits
def nW:cM:=⟨[],[],[]⟩
theorem lM (s t:ByteArray):(s.toList==t.toList)=decide (s=t):=by
 rw [ByteArray.toList_eq,ByteArray.toList_eq]
 by_cases h:s=t
 ·simp [h]
 ·have: ¬s.data.toList=t.data.toList:=fun e=>h (by cases s;cases t;simp at e;simp [e])
  simp only [h,decide_false,beq_eq_false_iff_ne]
  exact this
theorem nD {α:Type} {l m:List α} {k:Nat} {x:α} (h:l[k]? =some x) (h' :m[k]? =some x) (e:l.take k=m.take k):l.take (k+1)=m.take (k+1):=by rw [bO h,bO h',e]
theorem wB {α:Type} {l m:List α} {k:Nat} {x y:α} (h:l[k]? =some x) (h' :m[k]? =some y) (e: ¬x=y): ¬l=m:=by
 rintro rfl
 rw [h] at h'
 exact e (by injection h')
theorem oS {α:Type} {l m:List α} (h: ¬(l.length:Int)=m.length): ¬l=m:=fun e=>h (by rw [e])
theorem gT {α:Type} {l m:List α} {k:Nat} (hk:l.length≤k) (hl:l.length=m.length) (e:l.take k=m.take k):l=m:=by rwa [List.take_of_length_le hk,List.take_of_length_le (by omega)] at e
abbrev qW (l:List Int) (m:List Int):Prop:=cT Tryz.prog 226 [.one (.sl 3 1 (l.map intD)),.one (.sl 3 1 (m.map intD))] (vB (decide (l=m))) []
theorem aCC (l m:List Int):qW l m:=by
 refine aT bE aL Tryz.func226 (by kernel_rfl) (.len l.length<| .len m.length<| .br (.fin []) (.len l.length<| .loop Nat (Q1 Nat) [5,13,14,15,16,17,18,19,20,21,22,23,24,25] [] (fun k=>[(13,vI (k:Int))]) (fun k=>[]) (fun k=>k≤l.length∧l.take k=m.take k) (fun k=>l.length - k) (fun k=> .br (.elem _ intD l (fun e18=> .elem _ intD m (fun e22=> .br (.fin []) (.back [])))) (.fin [])))) (p:=(l.map intD).length≤9223372036854775807→(m.map intD).length≤9223372036854775807→Lm intD l∧(Lm intD m∧(((!(decide (((l.length:Nat):Int)=((m.length:Nat):Int))))=true→(false)=(decide (l=m))∧True)∧((!(decide (((l.length:Nat):Int)=((m.length:Nat):Int))))=false→Lm intD l∧((∃(k:Nat),(0:Int)=(k:Int)∧k≤l.length∧l.take k=m.take k)∧ ∀(k:Nat),(k≤l.length∧l.take k=m.take k)→((decide ((k:Int)<((l.length:Nat):Int)))=true→0≤(k:Int)∧Em intD l k fun e18=>0≤(k:Int)∧Em intD m k fun e22=>((!(decide (e18=e22)))=true→(false)=(decide (l=m))∧True)∧((!(decide (e18=e22)))=false→cC ((k:Int)+(1:Int))∧ ∃(k' :Nat),((k:Int)+(1:Int))=(k' :Int)∧(k' ≤l.length∧l.take k' =m.take k')∧l.length - k' <l.length - k))∧((decide ((k:Int)<((l.length:Nat):Int)))=false→(true)=(decide (l=m))∧True)))))) (by kernel_rfl) ?_
 intro n0 n1
 simp only [List.length_map] at n0 n1
 refine ⟨List.length_map _,List.length_map _,fun c0=>?_,fun c0=>?_⟩
 ·replace c0:=nq (nt c0)
  refine ⟨?_,trivial⟩
  ·first | (simp [wB hx hy hxy];done) | (simp [oS c0];done) | (simp [gT (by omega) hl ht];done)
 ·replace c0:=yq (nf c0)
  have hl:l.length=m.length:=by omega
  refine ⟨List.length_map _,⟨0,rfl,Nat.zero_le _,rfl⟩,fun k ⟨hk,ht⟩=>?_⟩
  refine ⟨fun c1=>?_,fun c1=>?_⟩
  ·replace c1:=yq c1
   obtain ⟨x,hx⟩:=dG (l:=l) (k:=k) (by omega)
   obtain ⟨y,hy⟩:=dG (l:=m) (k:=k) (by omega)
   refine ⟨by omega,rfl,by omega,fun e18 h18=>?_⟩
   obtain rfl:=(aY hx h18).symm
   refine ⟨by omega,rfl,by omega,fun e22 h22=>?_⟩
   obtain rfl:=(aY hy h22).symm
   refine ⟨fun c2=>?_,fun c2=>?_⟩
   ·replace c2:=nq (nt c2)
    have hxy: ¬x=y:=by simpa using c2
    refine ⟨?_,trivial⟩
    ·first | (simp [wB hx hy hxy];done) | (simp [oS c0];done) | (simp [gT (by omega) hl ht];done)
   ·replace c2:=yq (nf c2)
    have hxy:x=y:=by simpa using c2
    refine ⟨⟨by omega,by omega⟩,?_⟩
    exact ⟨k+1,rfl,⟨by omega,nD hx (by rw [hy,hxy]) ht⟩,by omega⟩
  ·replace c1:=nq c1
   refine ⟨?_,trivial⟩
   ·first | (simp [wB hx hy hxy];done) | (simp [oS c0];done) | (simp [gT (by omega) hl ht];done)
abbrev aQ2 (l:List Int) (m:List Int):Prop:=cT Tryz.prog 236 [.one (.sl 3 1 (l.map intD)),.one (.sl 3 1 (m.map intD))] (vB (decide (l=m))) []
theorem aVC (l m:List Int):aQ2 l m:=by
 refine aT bE aL Tryz.func236 (by kernel_rfl) (.call (vB (decide (l=m))) []<| .fin []) (p:=(l.map intD).length≤9223372036854775807→(m.map intD).length≤9223372036854775807→qW l m∧(decide (l=m))=(decide (l=m))∧True) (by kernel_rfl) ?_
 intro n0 n1
 simp only [List.length_map] at n0 n1
 refine ⟨aCC _ _,?_,trivial⟩
 ·rfl
abbrev aDd (l:List (List Int)) (m:List (List Int)):Prop:=cT Tryz.prog 235 [.one (.sl 39 1 (l.map aA)),.one (.sl 39 1 (m.map aA)),.fn 236 []] (vB (decide (l=m))) []
theorem aOQ (l m:List (List Int)):aDd l m:=by
 refine aT bE aL Tryz.func235 (by kernel_rfl) (.len l.length<| .len m.length<| .br (.fin []) (.len l.length<| .loop Nat (Q1 Nat) [7,8,9,17,18,19,20,21,22,23,24,25,26,27,28,29,30,31] [] (fun k=>[(17,vI (k:Int))]) (fun k=>[]) (fun k=>k≤l.length∧l.take k=m.take k) (fun k=>l.length - k) (fun k=> .br (.elem _ aA l (fun e20=> .elem _ aA m (fun e24=> .call (vB (decide (e20=e24))) []<| .br (.fin []) (.back [])))) (.fin [])))) (p:=(l.map aA).length≤9223372036854775807→(m.map aA).length≤9223372036854775807→Lm aA l∧(Lm aA m∧(((!(decide (((l.length:Nat):Int)=((m.length:Nat):Int))))=true→(false)=(decide (l=m))∧True)∧((!(decide (((l.length:Nat):Int)=((m.length:Nat):Int))))=false→Lm aA l∧((∃(k:Nat),(0:Int)=(k:Int)∧k≤l.length∧l.take k=m.take k)∧ ∀(k:Nat),(k≤l.length∧l.take k=m.take k)→((decide ((k:Int)<((l.length:Nat):Int)))=true→0≤(k:Int)∧Em aA l k fun e20=>0≤(k:Int)∧Em aA m k fun e24=>aQ2 e20 e24∧(((!(decide (e20=e24)))=true→(false)=(decide (l=m))∧True)∧((!(decide (e20=e24)))=false→cC ((k:Int)+(1:Int))∧ ∃(k' :Nat),((k:Int)+(1:Int))=(k' :Int)∧(k' ≤l.length∧l.take k' =m.take k')∧l.length - k' <l.length - k)))∧((decide ((k:Int)<((l.length:Nat):Int)))=false→(true)=(decide (l=m))∧True)))))) (by kernel_rfl) ?_
 intro n0 n1
 simp only [List.length_map] at n0 n1
 refine ⟨List.length_map _,List.length_map _,fun c0=>?_,fun c0=>?_⟩
 ·replace c0:=nq (nt c0)
  refine ⟨?_,trivial⟩
  ·first | (simp [wB hx hy hxy];done) | (simp [oS c0];done) | (simp [gT (by omega) hl ht];done)
 ·replace c0:=yq (nf c0)
  have hl:l.length=m.length:=by omega
  refine ⟨List.length_map _,⟨0,rfl,Nat.zero_le _,rfl⟩,fun k ⟨hk,ht⟩=>?_⟩
  refine ⟨fun c1=>?_,fun c1=>?_⟩
  ·replace c1:=yq c1
   obtain ⟨x,hx⟩:=dG (l:=l) (k:=k) (by omega)
   obtain ⟨y,hy⟩:=dG (l:=m) (k:=k) (by omega)
   refine ⟨by omega,rfl,by omega,fun e20 h20=>?_⟩
   obtain rfl:=(aY hx h20).symm
   refine ⟨by omega,rfl,by omega,fun e24 h24=>?_⟩
   obtain rfl:=(aY hy h24).symm
   refine ⟨aVC _ _,fun c2=>?_,fun c2=>?_⟩
   ·replace c2:=nq (nt c2)
    have hxy: ¬x=y:=by simpa using c2
    refine ⟨?_,trivial⟩
    ·first | (simp [wB hx hy hxy];done) | (simp [oS c0];done) | (simp [gT (by omega) hl ht];done)
   ·replace c2:=yq (nf c2)
    have hxy:x=y:=by simpa using c2
    refine ⟨⟨by omega,by omega⟩,?_⟩
    exact ⟨k+1,rfl,⟨by omega,nD hx (by rw [hy,hxy]) ht⟩,by omega⟩
  ·replace c1:=nq c1
   refine ⟨?_,trivial⟩
   ·first | (simp [wB hx hy hxy];done) | (simp [oS c0];done) | (simp [gT (by omega) hl ht];done)
abbrev aA6 (l:List (List Int)) (m:List (List Int)):Prop:=cT Tryz.prog 227 [.one (.sl 39 1 (l.map aA)),.one (.sl 39 1 (m.map aA))] (vB (decide (l=m))) []
theorem aKh (l m:List (List Int)):aA6 l m:=by
 refine aT bE aL Tryz.func227 (by kernel_rfl) (.call (vB (decide (l=m))) []<| .fin []) (p:=(l.map aA).length≤9223372036854775807→(m.map aA).length≤9223372036854775807→aDd l m∧(decide (l=m))=(decide (l=m))∧True) (by kernel_rfl) ?_
 intro n0 n1
 simp only [List.length_map] at n0 n1
 refine ⟨aOQ _ _,?_,trivial⟩
 ·rfl
theorem kP (a b:aP):decide (a=b)=(decide (a.columns=b.columns)&&(decide (a.values=b.values)&&decide (a.counts=b.counts))):=by
 obtain ⟨a0,a1,a2⟩:=a
 obtain ⟨b0,b1,b2⟩:=b
 simp [Bool.and_assoc]
abbrev aFn (a:aP) (b:aP):Prop:=cT Tryz.prog 206 [.agg [.sl 3 1 (a.columns.map intD),.sl 39 1 (a.values.map aA),.sl 3 1 (a.counts.map intD)],.agg [.sl 3 1 (b.columns.map intD),.sl 39 1 (b.values.map aA),.sl 3 1 (b.counts.map intD)]] (vB (decide (a=b))) []
theorem aQ3 (a b:aP):aFn a b:=by
 refine aT bE aL Tryz.func206 (by kernel_rfl) (.call (vB (decide (a.columns=b.columns))) []<| .br (.call (vB (decide (a.values=b.values))) []<| .lit<| .br (.call (vB (decide (a.counts=b.counts))) []<| .fin []) (.fin [])) (.fin [])) (p:=(a.columns.map intD).length≤9223372036854775807→(a.values.map aA).length≤9223372036854775807→(a.counts.map intD).length≤9223372036854775807→(b.columns.map intD).length≤9223372036854775807→(b.values.map aA).length≤9223372036854775807→(b.counts.map intD).length≤9223372036854775807→qW a.columns b.columns∧(((decide (a.columns=b.columns))=true→aA6 a.values b.values∧(((decide (a.values=b.values))=true→qW a.counts b.counts∧(decide (a.counts=b.counts))=(decide (a=b))∧True)∧((decide (a.values=b.values))=false→(false)=(decide (a=b))∧True)))∧((decide (a.columns=b.columns))=false→(false)=(decide (a=b))∧True))) (by kernel_rfl) ?_
 intro n0 n1 n2 n3 n4 n5
 simp only [List.length_map] at n0 n1 n2 n3 n4 n5
 refine ⟨aCC _ _,fun g10=>?_,fun g10=>?_⟩
 ·replace g10:=yq g10
  refine ⟨aKh _ _,fun g17=>?_,fun g17=>?_⟩
  ·replace g17:=yq g17
   refine ⟨aCC _ _,?_,trivial⟩
   ·first | (rw [kP];done) | (rw [kP];simp_all [lM];done)
  ·replace g17:=nq g17
   refine ⟨?_,trivial⟩
   ·first | (rw [kP];done) | (rw [kP];simp_all [lM];done)
 ·replace g10:=nq g10
  refine ⟨?_,trivial⟩
  ·first | (rw [kP];done) | (rw [kP];simp_all [lM];done)
abbrev sN (l:List aP) (m:List aP):Prop:=cT Tryz.prog 205 [.one (.sl 203 3 (l.map aB)),.one (.sl 203 3 (m.map aB)),.fn 206 []] (vB (decide (l=m))) []
theorem aEe (l m:List aP):sN l m:=by
 refine aT bE aL Tryz.func205 (by kernel_rfl) (.len l.length<| .len m.length<| .br (.fin []) (.len l.length<| .loop Nat (Q1 Nat) [7,8,9,17,18,19,20,21,22,23,24,25,26,27,28,29,30,31] [800,900] (fun k=>[(17,vI (k:Int))]) (fun k=>[]) (fun k=>k≤l.length∧l.take k=m.take k) (fun k=>l.length - k) (fun k=> .br (.elem _ aB l (fun e20=> .elem _ aB m (fun e24=> .call (vB (decide (e20=e24))) []<| .br (.fin []) (.back [])))) (.fin [])))) (p:=(l.map aB).length≤9223372036854775807→(m.map aB).length≤9223372036854775807→Lm aB l∧(Lm aB m∧(((!(decide (((l.length:Nat):Int)=((m.length:Nat):Int))))=true→(false)=(decide (l=m))∧True)∧((!(decide (((l.length:Nat):Int)=((m.length:Nat):Int))))=false→Lm aB l∧((∃(k:Nat),(0:Int)=(k:Int)∧k≤l.length∧l.take k=m.take k)∧ ∀(k:Nat),(k≤l.length∧l.take k=m.take k)→((decide ((k:Int)<((l.length:Nat):Int)))=true→0≤(k:Int)∧Em aB l k fun e20=>0≤(k:Int)∧Em aB m k fun e24=>aFn e20 e24∧(((!(decide (e20=e24)))=true→(false)=(decide (l=m))∧True)∧((!(decide (e20=e24)))=false→cC ((k:Int)+(1:Int))∧ ∃(k' :Nat),((k:Int)+(1:Int))=(k' :Int)∧(k' ≤l.length∧l.take k' =m.take k')∧l.length - k' <l.length - k)))∧((decide ((k:Int)<((l.length:Nat):Int)))=false→(true)=(decide (l=m))∧True)))))) (by kernel_rfl) ?_
 intro n0 n1
 simp only [List.length_map] at n0 n1
 refine ⟨List.length_map _,List.length_map _,fun c0=>?_,fun c0=>?_⟩
 ·replace c0:=nq (nt c0)
  refine ⟨?_,trivial⟩
  ·first | (simp [wB hx hy hxy];done) | (simp [oS c0];done) | (simp [gT (by omega) hl ht];done)
 ·replace c0:=yq (nf c0)
  have hl:l.length=m.length:=by omega
  refine ⟨List.length_map _,⟨0,rfl,Nat.zero_le _,rfl⟩,fun k ⟨hk,ht⟩=>?_⟩
  refine ⟨fun c1=>?_,fun c1=>?_⟩
  ·replace c1:=yq c1
   obtain ⟨x,hx⟩:=dG (l:=l) (k:=k) (by omega)
   obtain ⟨y,hy⟩:=dG (l:=m) (k:=k) (by omega)
   refine ⟨by omega,rfl,by omega,fun e20 h20=>?_⟩
   obtain rfl:=(aY hx h20).symm
   refine ⟨by omega,rfl,by omega,fun e24 h24=>?_⟩
   obtain rfl:=(aY hy h24).symm
   refine ⟨aQ3 _ _,fun c2=>?_,fun c2=>?_⟩
   ·replace c2:=nq (nt c2)
    have hxy: ¬x=y:=by simpa using c2
    refine ⟨?_,trivial⟩
    ·first | (simp [wB hx hy hxy];done) | (simp [oS c0];done) | (simp [gT (by omega) hl ht];done)
   ·replace c2:=yq (nf c2)
    have hxy:x=y:=by simpa using c2
    refine ⟨⟨by omega,by omega⟩,?_⟩
    exact ⟨k+1,rfl,⟨by omega,nD hx (by rw [hy,hxy]) ht⟩,by omega⟩
  ·replace c1:=nq c1
   refine ⟨?_,trivial⟩
   ·first | (simp [wB hx hy hxy];done) | (simp [oS c0];done) | (simp [gT (by omega) hl ht];done)
theorem dO (a b:aH):decide (a=b)=(decide (a.name=b.name)&&(decide (a.arity=b.arity)&&(decide (a.rowCount=b.rowCount)&&decide (a.groups=b.groups)))):=by
 obtain ⟨a0,a1,a2,a3⟩:=a
 obtain ⟨b0,b1,b2,b3⟩:=b
 simp [Bool.and_assoc]
abbrev nX (a:aH) (b:aH):Prop:=cT Tryz.prog 178 [.agg [.str a.name,.int .i64 a.arity,.int .i64 a.rowCount,.sl 203 3 (a.groups.map aB)],.agg [.str b.name,.int .i64 b.arity,.int .i64 b.rowCount,.sl 203 3 (b.groups.map aB)]] (vB (decide (a=b))) []
theorem uV (a b:aH):nX a b:=by
 refine aT bE aL Tryz.func178 (by kernel_rfl) (.br (.lit<| .lit<| .lit<| .lit<| .lit<| .br (.lit<| .lit<| .lit<| .lit<| .lit<| .br (.call (vB (decide (a.groups=b.groups))) []<| .fin []) (.fin [])) (.fin [])) (.fin [])) (p:=(a.groups.map aB).length≤9223372036854775807→(b.groups.map aB).length≤9223372036854775807→((a.name.toList==b.name.toList)=true→((decide (a.arity=b.arity))=true→((decide (a.rowCount=b.rowCount))=true→sN a.groups b.groups∧(decide (a.groups=b.groups))=(decide (a=b))∧True)∧((decide (a.rowCount=b.rowCount))=false→(false)=(decide (a=b))∧True))∧((decide (a.arity=b.arity))=false→(false)=(decide (a=b))∧True))∧((a.name.toList==b.name.toList)=false→(false)=(decide (a=b))∧True)) (by kernel_rfl) ?_
 intro n0 n1
 simp only [List.length_map] at n0 n1
 refine ⟨fun g10=>?_,fun g10=>?_⟩
 ·refine ⟨fun g17=>?_,fun g17=>?_⟩
  ·replace g17:=yq g17
   refine ⟨fun g24=>?_,fun g24=>?_⟩
   ·replace g24:=yq g24
    refine ⟨aEe _ _,?_,trivial⟩
    ·first | (rw [dO];done) | (rw [dO];simp_all [lM];done)
   ·replace g24:=nq g24
    refine ⟨?_,trivial⟩
    ·first | (rw [dO];done) | (rw [dO];simp_all [lM];done)
  ·replace g17:=nq g17
   refine ⟨?_,trivial⟩
   ·first | (rw [dO];done) | (rw [dO];simp_all [lM];done)
 ·refine ⟨?_,trivial⟩
  ·first | (rw [dO];done) | (rw [dO];simp_all [lM];done)
abbrev sO (l:List aH) (m:List aH):Prop:=cT Tryz.prog 177 [.one (.sl 161 4 (l.map aE)),.one (.sl 161 4 (m.map aE)),.fn 178 []] (vB (decide (l=m))) []
theorem aEf (l m:List aH):sO l m:=by
 refine aT bE aL Tryz.func177 (by kernel_rfl) (.len l.length<| .len m.length<| .br (.fin []) (.len l.length<| .loop Nat (Q1 Nat) [7,8,9,17,18,19,20,21,22,23,24,25,26,27,28,29,30,31] [800,900] (fun k=>[(17,vI (k:Int))]) (fun k=>[]) (fun k=>k≤l.length∧l.take k=m.take k) (fun k=>l.length - k) (fun k=> .br (.elem _ aE l (fun e20=> .elem _ aE m (fun e24=> .call (vB (decide (e20=e24))) []<| .br (.fin []) (.back [])))) (.fin [])))) (p:=(l.map aE).length≤9223372036854775807→(m.map aE).length≤9223372036854775807→Lm aE l∧(Lm aE m∧(((!(decide (((l.length:Nat):Int)=((m.length:Nat):Int))))=true→(false)=(decide (l=m))∧True)∧((!(decide (((l.length:Nat):Int)=((m.length:Nat):Int))))=false→Lm aE l∧((∃(k:Nat),(0:Int)=(k:Int)∧k≤l.length∧l.take k=m.take k)∧ ∀(k:Nat),(k≤l.length∧l.take k=m.take k)→((decide ((k:Int)<((l.length:Nat):Int)))=true→0≤(k:Int)∧Em aE l k fun e20=>0≤(k:Int)∧Em aE m k fun e24=>nX e20 e24∧(((!(decide (e20=e24)))=true→(false)=(decide (l=m))∧True)∧((!(decide (e20=e24)))=false→cC ((k:Int)+(1:Int))∧ ∃(k' :Nat),((k:Int)+(1:Int))=(k' :Int)∧(k' ≤l.length∧l.take k' =m.take k')∧l.length - k' <l.length - k)))∧((decide ((k:Int)<((l.length:Nat):Int)))=false→(true)=(decide (l=m))∧True)))))) (by kernel_rfl) ?_
 intro n0 n1
 simp only [List.length_map] at n0 n1
 refine ⟨List.length_map _,List.length_map _,fun c0=>?_,fun c0=>?_⟩
 ·replace c0:=nq (nt c0)
  refine ⟨?_,trivial⟩
  ·first | (simp [wB hx hy hxy];done) | (simp [oS c0];done) | (simp [gT (by omega) hl ht];done)
 ·replace c0:=yq (nf c0)
  have hl:l.length=m.length:=by omega
  refine ⟨List.length_map _,⟨0,rfl,Nat.zero_le _,rfl⟩,fun k ⟨hk,ht⟩=>?_⟩
  refine ⟨fun c1=>?_,fun c1=>?_⟩
  ·replace c1:=yq c1
   obtain ⟨x,hx⟩:=dG (l:=l) (k:=k) (by omega)
   obtain ⟨y,hy⟩:=dG (l:=m) (k:=k) (by omega)
   refine ⟨by omega,rfl,by omega,fun e20 h20=>?_⟩
   obtain rfl:=(aY hx h20).symm
   refine ⟨by omega,rfl,by omega,fun e24 h24=>?_⟩
   obtain rfl:=(aY hy h24).symm
   refine ⟨uV _ _,fun c2=>?_,fun c2=>?_⟩
   ·replace c2:=nq (nt c2)
    have hxy: ¬x=y:=by simpa using c2
    refine ⟨?_,trivial⟩
    ·first | (simp [wB hx hy hxy];done) | (simp [oS c0];done) | (simp [gT (by omega) hl ht];done)
   ·replace c2:=yq (nf c2)
    have hxy:x=y:=by simpa using c2
    refine ⟨⟨by omega,by omega⟩,?_⟩
    exact ⟨k+1,rfl,⟨by omega,nD hx (by rw [hy,hxy]) ht⟩,by omega⟩
  ·replace c1:=nq c1
   refine ⟨?_,trivial⟩
   ·first | (simp [wB hx hy hxy];done) | (simp [oS c0];done) | (simp [gT (by omega) hl ht];done)
theorem jB (a b:cU):decide (a=b)=(decide (a.version=b.version)&&decide (a.tables=b.tables)):=by
 obtain ⟨a0,a1⟩:=a
 obtain ⟨b0,b1⟩:=b
 simp [Bool.and_assoc]
abbrev aCD (a:cU) (b:cU):Prop:=cT Tryz.prog 147 [.agg [.int .i64 a.version,.sl 161 4 (a.tables.map aE)],.agg [.int .i64 b.version,.sl 161 4 (b.tables.map aE)]] (vB (decide (a=b))) []
theorem aMO (a b:cU):aCD a b:=by
 refine aT bE aL Tryz.func147 (by kernel_rfl) (.br (.call (vB (decide (a.tables=b.tables))) []<| .fin []) (.fin [])) (p:=(a.tables.map aE).length≤9223372036854775807→(b.tables.map aE).length≤9223372036854775807→((decide (a.version=b.version))=true→sO a.tables b.tables∧(decide (a.tables=b.tables))=(decide (a=b))∧True)∧((decide (a.version=b.version))=false→(false)=(decide (a=b))∧True)) (by kernel_rfl) ?_
 intro n0 n1
 simp only [List.length_map] at n0 n1
 refine ⟨fun g10=>?_,fun g10=>?_⟩
 ·replace g10:=yq g10
  refine ⟨aEf _ _,?_,trivial⟩
  ·first | (rw [jB];done) | (rw [jB];simp_all [lM];done)
 ·replace g10:=nq g10
  refine ⟨?_,trivial⟩
  ·first | (rw [jB];done) | (rw [jB];simp_all [lM];done)
end Go.Proofs.YtdfebigfnjfgpaaGreat
