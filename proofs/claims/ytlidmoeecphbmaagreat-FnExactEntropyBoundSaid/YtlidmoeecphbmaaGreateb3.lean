/-
  Contracts and plain laws, joined: part 4.
-/
import Derived.Test.YtlidmoeecphbmaaGreateb2
import Derived.Laws.Strings
import Derived.IntWalk
import Derived.Deep.RegionHeld3
import Derived.BigRegion
import Derived.Deep.LoopGhost
import Derived.Shelf.SlSortCmp.Insertion
namespace Go.Proofs.YtlidmoeecphbmaaGreat
open Go.ChangeShapes Go.WideShapes Go.ChangeAt Go.RowKit
set_option linter.unusedVariables false
set_option linter.unusedSimpArgs false
set_option maxRecDepth 100000
set_option maxHeartbeats 4000000
def tb:Tb:=⟨[(2,(false,1,8,.int .i64 0)),(3,(false,1,8,.int .i64 0)),(4,(false,1,1,.bool false)),(5,(false,1,1,.int .u8 0)),(6,(false,1,1,.int .u8 0)),(7,(true,4,24,.agg #[.int .i64 0,.int .i64 0,.bool false,.int .u8 0])),(8,(true,4,24,.agg #[.int .i64 0,.int .i64 0,.bool false,.int .u8 0])),(9,(false,1,16,.string ByteArray.empty)),(10,(false,1,16,.string ByteArray.empty)),(11,(false,1,16,.string ByteArray.empty)),(12,(false,1,8,.int .u64 0)),(13,(true,2,24,.agg #[.string ByteArray.empty,.int .u64 0])),(14,(true,2,24,.agg #[.string ByteArray.empty,.int .u64 0])),(15,(false,1,8,.pointer none)),(16,(false,1,8,.pointer none)),(17,(false,1,8,.pointer none)),(21,(false,1,4,.int .i32 0)),(22,(false,1,24,.slice none 0 0)),(23,(true,1,24,.agg #[.slice none 0 0])),(24,(true,1,24,.agg #[.slice none 0 0])),(25,(false,1,24,.slice none 0 0)),(26,(true,2,32,.agg #[.int .i64 0,.slice none 0 0])),(27,(true,2,32,.agg #[.int .i64 0,.slice none 0 0])),(28,(false,1,24,.slice none 0 0)),(29,(false,1,24,.slice none 0 0)),(30,(true,5,104,.agg #[.slice none 0 0,.int .i64 0,.slice none 0 0,.slice none 0 0,.slice none 0 0])),(31,(true,5,104,.agg #[.slice none 0 0,.int .i64 0,.slice none 0 0,.slice none 0 0,.slice none 0 0])),(32,(false,1,24,.slice none 0 0)),(33,(true,2,32,.agg #[.int .i64 0,.slice none 0 0])),(34,(true,2,32,.agg #[.int .i64 0,.slice none 0 0])),(37,(true,2,16,.agg #[.int .i64 0,.int .i64 0])),(38,(true,2,16,.agg #[.int .i64 0,.int .i64 0])),(41,(false,1,24,.slice none 0 0)),(42,(true,1,24,.agg #[.slice none 0 0])),(43,(true,1,24,.agg #[.slice none 0 0])),(44,(false,1,24,.slice none 0 0)),(45,(true,2,32,.agg #[.int .i64 0,.slice none 0 0])),(46,(true,2,32,.agg #[.int .i64 0,.slice none 0 0])),(47,(false,1,24,.slice none 0 0)),(48,(false,1,24,.slice none 0 0)),(49,(true,5,104,.agg #[.slice none 0 0,.int .i64 0,.slice none 0 0,.slice none 0 0,.slice none 0 0])),(50,(true,5,104,.agg #[.slice none 0 0,.int .i64 0,.slice none 0 0,.slice none 0 0,.slice none 0 0])),(52,(false,1,24,.slice none 0 0)),(53,(true,2,32,.agg #[.int .i64 0,.slice none 0 0])),(54,(true,2,32,.agg #[.int .i64 0,.slice none 0 0])),(61,(false,1,24,.slice none 0 0)),(62,(true,4,64,.agg #[.int .i64 0,.int .i64 0,.slice none 0 0,.slice none 0 0])),(63,(true,4,64,.agg #[.int .i64 0,.int .i64 0,.slice none 0 0,.slice none 0 0])),(86,(false,1,24,.slice none 0 0)),(87,(true,4,56,.agg #[.string ByteArray.empty,.int .i64 0,.int .i64 0,.slice none 0 0])),(88,(true,4,56,.agg #[.string ByteArray.empty,.int .i64 0,.int .i64 0,.slice none 0 0])),(91,(false,1,24,.slice none 0 0)),(92,(false,1,24,.slice none 0 0)),(93,(true,3,72,.agg #[.slice none 0 0,.slice none 0 0,.slice none 0 0])),(94,(true,3,72,.agg #[.slice none 0 0,.slice none 0 0,.slice none 0 0])),(98,(false,1,24,.slice none 0 0)),(111,(true,3,48,.agg #[.string ByteArray.empty,.slice none 0 0,.int .i64 0])),(112,(true,3,48,.agg #[.string ByteArray.empty,.slice none 0 0,.int .i64 0])),(114,(true,4,48,.agg #[.string ByteArray.empty,.int .i64 0,.string ByteArray.empty,.int .i64 0])),(115,(true,4,48,.agg #[.string ByteArray.empty,.int .i64 0,.string ByteArray.empty,.int .i64 0])),(117,(true,2,40,.agg #[.string ByteArray.empty,.slice none 0 0])),(118,(true,2,40,.agg #[.string ByteArray.empty,.slice none 0 0])),(121,(true,3,48,.agg #[.string ByteArray.empty,.slice none 0 0,.int .i64 0])),(123,(true,4,48,.agg #[.string ByteArray.empty,.int .i64 0,.string ByteArray.empty,.int .i64 0])),(125,(true,2,40,.agg #[.string ByteArray.empty,.slice none 0 0])),(141,(true,3,48,.agg #[.string ByteArray.empty,.int .i64 0,.slice none 0 0])),(142,(true,3,48,.agg #[.string ByteArray.empty,.int .i64 0,.slice none 0 0])),(149,(false,1,24,.slice none 0 0)),(150,(true,7,136,.agg #[.slice none 0 0,.slice none 0 0,.slice none 0 0,.slice none 0 0,.slice none 0 0,.int .i64 0,.int .i64 0])),(151,(true,7,136,.agg #[.slice none 0 0,.slice none 0 0,.slice none 0 0,.slice none 0 0,.slice none 0 0,.int .i64 0,.int .i64 0])),(165,(true,3,48,.agg #[.string ByteArray.empty,.int .i64 0,.slice none 0 0])),(167,(false,1,24,.slice none 0 0)),(168,(true,4,56,.agg #[.string ByteArray.empty,.int .i64 0,.int .i64 0,.slice none 0 0])),(169,(true,4,56,.agg #[.string ByteArray.empty,.int .i64 0,.int .i64 0,.slice none 0 0])),(191,(true,3,24,.agg #[.int .i64 0,.int .i64 0,.int .i64 0])),(192,(true,3,24,.agg #[.int .i64 0,.int .i64 0,.int .i64 0])),(199,(false,1,8,.pointer none)),(200,(true,1,1,.agg #[.bool false])),(201,(true,1,1,.agg #[.bool false])),(207,(false,1,24,.slice none 0 0)),(219,(true,3,72,.agg #[.slice none 0 0,.slice none 0 0,.slice none 0 0])),(220,(true,3,72,.agg #[.slice none 0 0,.slice none 0 0,.slice none 0 0])),(222,(false,1,24,.slice none 0 0)),(233,(true,3,72,.agg #[.slice none 0 0,.slice none 0 0,.slice none 0 0])),(255,(false,1,8,.int .u64 0)),(258,(false,1,8,.int .i64 0)),(267,(false,1,4,.int .u32 0)),(269,(false,1,8,.int .u64 0)),(275,(false,1,8,.int .u64 0)),(279,(false,1,8,.pointer none)),(284,(false,1,8,.pointer none)),(292,(true,0,0,.agg #[])),(293,(true,0,0,.agg #[])),(295,(false,1,1,.int .u8 0)),(296,(false,1,1,.int .u8 0)),(298,(false,1,8,.pointer none)),(299,(false,1,4,.int .i32 0)),(300,(false,1,4,.int .i32 0))],
 [(22,165),(25,169),(28,112),(29,115),(32,118),(41,142),(44,88),(47,121),(48,123),(52,125),(61,38),(86,220),(91,3),(92,91),(98,192),(149,61),(167,233),(207,5),(222,4)],
 [(7,[(0,(0,2)),(1,(1,3)),(2,(2,4)),(3,(3,6))]),(8,[(0,(0,2)),(1,(1,3)),(2,(2,4)),(3,(3,6))]),(13,[(0,(0,9)),(1,(1,12))]),(14,[(0,(0,9)),(1,(1,12))]),(23,[(0,(0,22))]),(24,[(0,(0,22))]),(26,[(0,(0,3)),(1,(1,25))]),(27,[(0,(0,3)),(1,(1,25))]),(30,[(0,(0,24)),(1,(1,27)),(2,(3,28)),(3,(4,29))]),(31,[(0,(0,24)),(1,(1,27)),(2,(3,28)),(3,(4,29))]),(33,[(0,(0,3)),(1,(1,32))]),(34,[(0,(0,3)),(1,(1,32))]),(37,[(0,(0,3)),(1,(1,3))]),(38,[(0,(0,3)),(1,(1,3))]),(42,[(0,(0,41))]),(43,[(0,(0,41))]),(45,[(0,(0,3)),(1,(1,44))]),(46,[(0,(0,3)),(1,(1,44))]),(49,[(0,(0,43)),(1,(1,46)),(2,(3,47)),(3,(4,48))]),(50,[(0,(0,43)),(1,(1,46)),(2,(3,47)),(3,(4,48))]),(53,[(0,(0,3)),(1,(1,52))]),(54,[(0,(0,3)),(1,(1,52))]),(62,[(0,(0,38)),(1,(2,61)),(2,(3,61))]),(63,[(0,(0,38)),(1,(2,61)),(2,(3,61))]),(87,[(0,(0,9)),(1,(1,3)),(2,(2,3)),(3,(3,86))]),(88,[(0,(0,9)),(1,(1,3)),(2,(2,3)),(3,(3,86))]),(93,[(0,(0,91)),(1,(1,92)),(2,(2,91))]),(94,[(0,(0,91)),(1,(1,92)),(2,(2,91))]),(111,[(0,(0,9)),(1,(1,91)),(2,(2,3))]),(112,[(0,(0,9)),(1,(1,91)),(2,(2,3))]),(114,[(0,(0,9)),(1,(1,3)),(2,(2,9)),(3,(3,3))]),(115,[(0,(0,9)),(1,(1,3)),(2,(2,9)),(3,(3,3))]),(117,[(0,(0,9)),(1,(1,91))]),(118,[(0,(0,9)),(1,(1,91))]),(121,[(0,(0,9)),(1,(1,91)),(2,(2,3))]),(123,[(0,(0,9)),(1,(1,3)),(2,(2,9)),(3,(3,3))]),(125,[(0,(0,9)),(1,(1,91))]),(141,[(0,(0,9)),(1,(1,3)),(2,(2,92))]),(142,[(0,(0,9)),(1,(1,3)),(2,(2,92))]),(150,[(0,(0,91)),(1,(1,91)),(2,(2,149)),(3,(3,61)),(4,(4,61)),(5,(5,38))]),(151,[(0,(0,91)),(1,(1,91)),(2,(2,149)),(3,(3,61)),(4,(4,61)),(5,(5,38))]),(165,[(0,(0,9)),(1,(1,3)),(2,(2,92))]),(168,[(0,(0,9)),(1,(1,3)),(2,(2,3)),(3,(3,167))]),(169,[(0,(0,9)),(1,(1,3)),(2,(2,3)),(3,(3,167))]),(191,[(0,(0,3)),(1,(1,3)),(2,(2,3))]),(192,[(0,(0,3)),(1,(1,3)),(2,(2,3))]),(200,[(0,(0,4))]),(201,[(0,(0,4))]),(219,[(0,(0,91)),(1,(1,92)),(2,(2,91))]),(220,[(0,(0,91)),(1,(1,92)),(2,(2,91))]),(233,[(0,(0,91)),(1,(1,92)),(2,(2,91))]),(292,[]),(293,[])],
 [(7,(.agg #[.int .i64 0,.int .i64 0,.bool false,.int .u8 0],[(0,1),(1,1),(2,1),(3,1)])),(8,(.agg #[.int .i64 0,.int .i64 0,.bool false,.int .u8 0],[(0,1),(1,1),(2,1),(3,1)])),(13,(.agg #[.string ByteArray.empty,.int .u64 0],[(0,1),(1,1)])),(14,(.agg #[.string ByteArray.empty,.int .u64 0],[(0,1),(1,1)])),(23,(.agg #[.slice none 0 0],[(0,1)])),(24,(.agg #[.slice none 0 0],[(0,1)])),(26,(.agg #[.int .i64 0,.slice none 0 0],[(0,1),(1,1)])),(27,(.agg #[.int .i64 0,.slice none 0 0],[(0,1),(1,1)])),(30,(.agg #[.slice none 0 0,.int .i64 0,.slice none 0 0,.slice none 0 0,.slice none 0 0],[(0,1),(1,2),(3,1),(4,1)])),(31,(.agg #[.slice none 0 0,.int .i64 0,.slice none 0 0,.slice none 0 0,.slice none 0 0],[(0,1),(1,2),(3,1),(4,1)])),(33,(.agg #[.int .i64 0,.slice none 0 0],[(0,1),(1,1)])),(34,(.agg #[.int .i64 0,.slice none 0 0],[(0,1),(1,1)])),(37,(.agg #[.int .i64 0,.int .i64 0],[(0,1),(1,1)])),(38,(.agg #[.int .i64 0,.int .i64 0],[(0,1),(1,1)])),(42,(.agg #[.slice none 0 0],[(0,1)])),(43,(.agg #[.slice none 0 0],[(0,1)])),(45,(.agg #[.int .i64 0,.slice none 0 0],[(0,1),(1,1)])),(46,(.agg #[.int .i64 0,.slice none 0 0],[(0,1),(1,1)])),(49,(.agg #[.slice none 0 0,.int .i64 0,.slice none 0 0,.slice none 0 0,.slice none 0 0],[(0,1),(1,2),(3,1),(4,1)])),(50,(.agg #[.slice none 0 0,.int .i64 0,.slice none 0 0,.slice none 0 0,.slice none 0 0],[(0,1),(1,2),(3,1),(4,1)])),(53,(.agg #[.int .i64 0,.slice none 0 0],[(0,1),(1,1)])),(54,(.agg #[.int .i64 0,.slice none 0 0],[(0,1),(1,1)])),(62,(.agg #[.int .i64 0,.int .i64 0,.slice none 0 0,.slice none 0 0],[(0,2),(2,1),(3,1)])),(63,(.agg #[.int .i64 0,.int .i64 0,.slice none 0 0,.slice none 0 0],[(0,2),(2,1),(3,1)])),(87,(.agg #[.string ByteArray.empty,.int .i64 0,.int .i64 0,.slice none 0 0],[(0,1),(1,1),(2,1),(3,1)])),(88,(.agg #[.string ByteArray.empty,.int .i64 0,.int .i64 0,.slice none 0 0],[(0,1),(1,1),(2,1),(3,1)])),(93,(.agg #[.slice none 0 0,.slice none 0 0,.slice none 0 0],[(0,1),(1,1),(2,1)])),(94,(.agg #[.slice none 0 0,.slice none 0 0,.slice none 0 0],[(0,1),(1,1),(2,1)])),(111,(.agg #[.string ByteArray.empty,.slice none 0 0,.int .i64 0],[(0,1),(1,1),(2,1)])),(112,(.agg #[.string ByteArray.empty,.slice none 0 0,.int .i64 0],[(0,1),(1,1),(2,1)])),(114,(.agg #[.string ByteArray.empty,.int .i64 0,.string ByteArray.empty,.int .i64 0],[(0,1),(1,1),(2,1),(3,1)])),(115,(.agg #[.string ByteArray.empty,.int .i64 0,.string ByteArray.empty,.int .i64 0],[(0,1),(1,1),(2,1),(3,1)])),(117,(.agg #[.string ByteArray.empty,.slice none 0 0],[(0,1),(1,1)])),(118,(.agg #[.string ByteArray.empty,.slice none 0 0],[(0,1),(1,1)])),(121,(.agg #[.string ByteArray.empty,.slice none 0 0,.int .i64 0],[(0,1),(1,1),(2,1)])),(123,(.agg #[.string ByteArray.empty,.int .i64 0,.string ByteArray.empty,.int .i64 0],[(0,1),(1,1),(2,1),(3,1)])),(125,(.agg #[.string ByteArray.empty,.slice none 0 0],[(0,1),(1,1)])),(141,(.agg #[.string ByteArray.empty,.int .i64 0,.slice none 0 0],[(0,1),(1,1),(2,1)])),(142,(.agg #[.string ByteArray.empty,.int .i64 0,.slice none 0 0],[(0,1),(1,1),(2,1)])),(150,(.agg #[.slice none 0 0,.slice none 0 0,.slice none 0 0,.slice none 0 0,.slice none 0 0,.int .i64 0,.int .i64 0],[(0,1),(1,1),(2,1),(3,1),(4,1),(5,2)])),(151,(.agg #[.slice none 0 0,.slice none 0 0,.slice none 0 0,.slice none 0 0,.slice none 0 0,.int .i64 0,.int .i64 0],[(0,1),(1,1),(2,1),(3,1),(4,1),(5,2)])),(165,(.agg #[.string ByteArray.empty,.int .i64 0,.slice none 0 0],[(0,1),(1,1),(2,1)])),(168,(.agg #[.string ByteArray.empty,.int .i64 0,.int .i64 0,.slice none 0 0],[(0,1),(1,1),(2,1),(3,1)])),(169,(.agg #[.string ByteArray.empty,.int .i64 0,.int .i64 0,.slice none 0 0],[(0,1),(1,1),(2,1),(3,1)])),(191,(.agg #[.int .i64 0,.int .i64 0,.int .i64 0],[(0,1),(1,1),(2,1)])),(192,(.agg #[.int .i64 0,.int .i64 0,.int .i64 0],[(0,1),(1,1),(2,1)])),(200,(.agg #[.bool false],[(0,1)])),(201,(.agg #[.bool false],[(0,1)])),(219,(.agg #[.slice none 0 0,.slice none 0 0,.slice none 0 0],[(0,1),(1,1),(2,1)])),(220,(.agg #[.slice none 0 0,.slice none 0 0,.slice none 0 0],[(0,1),(1,1),(2,1)])),(233,(.agg #[.slice none 0 0,.slice none 0 0,.slice none 0 0],[(0,1),(1,1),(2,1)])),(292,(.agg #[],[(0,0)])),(293,(.agg #[],[(0,0)]))],
 [(4,())],
 [(9,()),(10,()),(11,())],
 [(2,.i64),(3,.i64),(5,.u8),(6,.u8),(12,.u64),(21,.i32),(255,.u64),(258,.i64),(267,.u32),(269,.u64),(275,.u64),(295,.u8),(296,.u8),(299,.i32),(300,.i32)],
 [(38,[0,0]),(123,[2,0,2,0]),(192,[0,0,0]),(201,[1])]⟩
theorem fc {α:Type}{p:Nat→α→Prop}{k:Nat}{v:α}{l:List (Nat × α)}(h:p k v)(t:oB p l):oB p ((k,v)::l):=⟨h,t⟩
theorem aO:Tryz.prog.follows .mixedOrders=true:=by kernel_rfl
set_option maxRecDepth 100000 in
theorem bH:lO Tryz.prog tb:=
 ⟨(fc (by kernel_rfl)<| fc (by kernel_rfl)<| fc (by kernel_rfl)<| fc (by kernel_rfl)<| fc (by kernel_rfl)<| fc (by kernel_rfl)<| fc (by kernel_rfl)<| fc (by kernel_rfl)<| fc (by kernel_rfl)<| fc (by kernel_rfl)<| fc (by kernel_rfl)<| fc (by kernel_rfl)<| fc (by kernel_rfl)<| fc (by kernel_rfl)<| fc (by kernel_rfl)<| fc (by kernel_rfl)<| fc (by kernel_rfl)<| fc (by kernel_rfl)<| fc (by kernel_rfl)<| fc (by kernel_rfl)<| fc (by kernel_rfl)<| fc (by kernel_rfl)<| fc (by kernel_rfl)<| fc (by kernel_rfl)<| fc (by kernel_rfl)<| fc (by kernel_rfl)<| fc (by kernel_rfl)<| fc (by kernel_rfl)<| fc (by kernel_rfl)<| fc (by kernel_rfl)<| fc (by kernel_rfl)<| fc (by kernel_rfl)<| fc (by kernel_rfl)<| fc (by kernel_rfl)<| fc (by kernel_rfl)<| fc (by kernel_rfl)<| fc (by kernel_rfl)<| fc (by kernel_rfl)<| fc (by kernel_rfl)<| fc (by kernel_rfl)<| fc (by kernel_rfl)<| fc (by kernel_rfl)<| fc (by kernel_rfl)<| fc (by kernel_rfl)<| fc (by kernel_rfl)<| fc (by kernel_rfl)<| fc (by kernel_rfl)<| fc (by kernel_rfl)<| fc (by kernel_rfl)<| fc (by kernel_rfl)<| fc (by kernel_rfl)<| fc (by kernel_rfl)<| fc (by kernel_rfl)<| fc (by kernel_rfl)<| fc (by kernel_rfl)<| fc (by kernel_rfl)<| fc (by kernel_rfl)<| fc (by kernel_rfl)<| fc (by kernel_rfl)<| fc (by kernel_rfl)<| fc (by kernel_rfl)<| fc (by kernel_rfl)<| fc (by kernel_rfl)<| fc (by kernel_rfl)<| fc (by kernel_rfl)<| fc (by kernel_rfl)<| fc (by kernel_rfl)<| fc (by kernel_rfl)<| fc (by kernel_rfl)<| fc (by kernel_rfl)<| fc (by kernel_rfl)<| fc (by kernel_rfl)<| fc (by kernel_rfl)<| fc (by kernel_rfl)<| fc (by kernel_rfl)<| fc (by kernel_rfl)<| fc (by kernel_rfl)<| fc (by kernel_rfl)<| fc (by kernel_rfl)<| fc (by kernel_rfl)<| fc (by kernel_rfl)<| fc (by kernel_rfl)<| fc (by kernel_rfl)<| fc (by kernel_rfl)<| fc (by kernel_rfl)<| fc (by kernel_rfl)<| fc (by kernel_rfl)<| fc (by kernel_rfl)<| fc (by kernel_rfl)<| fc (by kernel_rfl)<| fc (by kernel_rfl)<| fc (by kernel_rfl)<| fc (by kernel_rfl)<| fc (by kernel_rfl)<| fc (by kernel_rfl)<| fc (by kernel_rfl)<| fc (by kernel_rfl)<| fc (by kernel_rfl)<| trivial),
  (fc (by kernel_rfl)<| fc (by kernel_rfl)<| fc (by kernel_rfl)<| fc (by kernel_rfl)<| fc (by kernel_rfl)<| fc (by kernel_rfl)<| fc (by kernel_rfl)<| fc (by kernel_rfl)<| fc (by kernel_rfl)<| fc (by kernel_rfl)<| fc (by kernel_rfl)<| fc (by kernel_rfl)<| fc (by kernel_rfl)<| fc (by kernel_rfl)<| fc (by kernel_rfl)<| fc (by kernel_rfl)<| fc (by kernel_rfl)<| fc (by kernel_rfl)<| fc (by kernel_rfl)<| trivial),
  (fc (fc (by kernel_rfl)<| fc (by kernel_rfl)<| fc (by kernel_rfl)<| fc (by kernel_rfl)<| trivial)<| fc (fc (by kernel_rfl)<| fc (by kernel_rfl)<| fc (by kernel_rfl)<| fc (by kernel_rfl)<| trivial)<| fc (fc (by kernel_rfl)<| fc (by kernel_rfl)<| trivial)<| fc (fc (by kernel_rfl)<| fc (by kernel_rfl)<| trivial)<| fc (fc (by kernel_rfl)<| trivial)<| fc (fc (by kernel_rfl)<| trivial)<| fc (fc (by kernel_rfl)<| fc (by kernel_rfl)<| trivial)<| fc (fc (by kernel_rfl)<| fc (by kernel_rfl)<| trivial)<| fc (fc (by kernel_rfl)<| fc (by kernel_rfl)<| fc (by kernel_rfl)<| fc (by kernel_rfl)<| trivial)<| fc (fc (by kernel_rfl)<| fc (by kernel_rfl)<| fc (by kernel_rfl)<| fc (by kernel_rfl)<| trivial)<| fc (fc (by kernel_rfl)<| fc (by kernel_rfl)<| trivial)<| fc (fc (by kernel_rfl)<| fc (by kernel_rfl)<| trivial)<| fc (fc (by kernel_rfl)<| fc (by kernel_rfl)<| trivial)<| fc (fc (by kernel_rfl)<| fc (by kernel_rfl)<| trivial)<| fc (fc (by kernel_rfl)<| trivial)<| fc (fc (by kernel_rfl)<| trivial)<| fc (fc (by kernel_rfl)<| fc (by kernel_rfl)<| trivial)<| fc (fc (by kernel_rfl)<| fc (by kernel_rfl)<| trivial)<| fc (fc (by kernel_rfl)<| fc (by kernel_rfl)<| fc (by kernel_rfl)<| fc (by kernel_rfl)<| trivial)<| fc (fc (by kernel_rfl)<| fc (by kernel_rfl)<| fc (by kernel_rfl)<| fc (by kernel_rfl)<| trivial)<| fc (fc (by kernel_rfl)<| fc (by kernel_rfl)<| trivial)<| fc (fc (by kernel_rfl)<| fc (by kernel_rfl)<| trivial)<| fc (fc (by kernel_rfl)<| fc (by kernel_rfl)<| fc (by kernel_rfl)<| trivial)<| fc (fc (by kernel_rfl)<| fc (by kernel_rfl)<| fc (by kernel_rfl)<| trivial)<| fc (fc (by kernel_rfl)<| fc (by kernel_rfl)<| fc (by kernel_rfl)<| fc (by kernel_rfl)<| trivial)<| fc (fc (by kernel_rfl)<| fc (by kernel_rfl)<| fc (by kernel_rfl)<| fc (by kernel_rfl)<| trivial)<| fc (fc (by kernel_rfl)<| fc (by kernel_rfl)<| fc (by kernel_rfl)<| trivial)<| fc (fc (by kernel_rfl)<| fc (by kernel_rfl)<| fc (by kernel_rfl)<| trivial)<| fc (fc (by kernel_rfl)<| fc (by kernel_rfl)<| fc (by kernel_rfl)<| trivial)<| fc (fc (by kernel_rfl)<| fc (by kernel_rfl)<| fc (by kernel_rfl)<| trivial)<| fc (fc (by kernel_rfl)<| fc (by kernel_rfl)<| fc (by kernel_rfl)<| fc (by kernel_rfl)<| trivial)<| fc (fc (by kernel_rfl)<| fc (by kernel_rfl)<| fc (by kernel_rfl)<| fc (by kernel_rfl)<| trivial)<| fc (fc (by kernel_rfl)<| fc (by kernel_rfl)<| trivial)<| fc (fc (by kernel_rfl)<| fc (by kernel_rfl)<| trivial)<| fc (fc (by kernel_rfl)<| fc (by kernel_rfl)<| fc (by kernel_rfl)<| trivial)<| fc (fc (by kernel_rfl)<| fc (by kernel_rfl)<| fc (by kernel_rfl)<| fc (by kernel_rfl)<| trivial)<| fc (fc (by kernel_rfl)<| fc (by kernel_rfl)<| trivial)<| fc (fc (by kernel_rfl)<| fc (by kernel_rfl)<| fc (by kernel_rfl)<| trivial)<| fc (fc (by kernel_rfl)<| fc (by kernel_rfl)<| fc (by kernel_rfl)<| trivial)<| fc (fc (by kernel_rfl)<| fc (by kernel_rfl)<| fc (by kernel_rfl)<| fc (by kernel_rfl)<| fc (by kernel_rfl)<| fc (by kernel_rfl)<| trivial)<| fc (fc (by kernel_rfl)<| fc (by kernel_rfl)<| fc (by kernel_rfl)<| fc (by kernel_rfl)<| fc (by kernel_rfl)<| fc (by kernel_rfl)<| trivial)<| fc (fc (by kernel_rfl)<| fc (by kernel_rfl)<| fc (by kernel_rfl)<| trivial)<| fc (fc (by kernel_rfl)<| fc (by kernel_rfl)<| fc (by kernel_rfl)<| fc (by kernel_rfl)<| trivial)<| fc (fc (by kernel_rfl)<| fc (by kernel_rfl)<| fc (by kernel_rfl)<| fc (by kernel_rfl)<| trivial)<| fc (fc (by kernel_rfl)<| fc (by kernel_rfl)<| fc (by kernel_rfl)<| trivial)<| fc (fc (by kernel_rfl)<| fc (by kernel_rfl)<| fc (by kernel_rfl)<| trivial)<| fc (fc (by kernel_rfl)<| trivial)<| fc (fc (by kernel_rfl)<| trivial)<| fc (fc (by kernel_rfl)<| fc (by kernel_rfl)<| fc (by kernel_rfl)<| trivial)<| fc (fc (by kernel_rfl)<| fc (by kernel_rfl)<| fc (by kernel_rfl)<| trivial)<| fc (fc (by kernel_rfl)<| fc (by kernel_rfl)<| fc (by kernel_rfl)<| trivial)<| fc (trivial)<| fc (trivial)<| trivial),
  (fc (by kernel_rfl)<| fc (by kernel_rfl)<| fc (by kernel_rfl)<| fc (by kernel_rfl)<| fc (by kernel_rfl)<| fc (by kernel_rfl)<| fc (by kernel_rfl)<| fc (by kernel_rfl)<| fc (by kernel_rfl)<| fc (by kernel_rfl)<| fc (by kernel_rfl)<| fc (by kernel_rfl)<| fc (by kernel_rfl)<| fc (by kernel_rfl)<| fc (by kernel_rfl)<| fc (by kernel_rfl)<| fc (by kernel_rfl)<| fc (by kernel_rfl)<| fc (by kernel_rfl)<| fc (by kernel_rfl)<| fc (by kernel_rfl)<| fc (by kernel_rfl)<| fc (by kernel_rfl)<| fc (by kernel_rfl)<| fc (by kernel_rfl)<| fc (by kernel_rfl)<| fc (by kernel_rfl)<| fc (by kernel_rfl)<| fc (by kernel_rfl)<| fc (by kernel_rfl)<| fc (by kernel_rfl)<| fc (by kernel_rfl)<| fc (by kernel_rfl)<| fc (by kernel_rfl)<| fc (by kernel_rfl)<| fc (by kernel_rfl)<| fc (by kernel_rfl)<| fc (by kernel_rfl)<| fc (by kernel_rfl)<| fc (by kernel_rfl)<| fc (by kernel_rfl)<| fc (by kernel_rfl)<| fc (by kernel_rfl)<| fc (by kernel_rfl)<| fc (by kernel_rfl)<| fc (by kernel_rfl)<| fc (by kernel_rfl)<| fc (by kernel_rfl)<| fc (by kernel_rfl)<| fc (by kernel_rfl)<| fc (by kernel_rfl)<| fc (by kernel_rfl)<| fc (by kernel_rfl)<| trivial),
  (fc (by kernel_rfl)<| trivial),
  (fc (by kernel_rfl)<| fc (by kernel_rfl)<| fc (by kernel_rfl)<| trivial),
  (fc (by kernel_rfl)<| fc (by kernel_rfl)<| fc (by kernel_rfl)<| fc (by kernel_rfl)<| fc (by kernel_rfl)<| fc (by kernel_rfl)<| fc (by kernel_rfl)<| fc (by kernel_rfl)<| fc (by kernel_rfl)<| fc (by kernel_rfl)<| fc (by kernel_rfl)<| fc (by kernel_rfl)<| fc (by kernel_rfl)<| fc (by kernel_rfl)<| fc (by kernel_rfl)<| trivial),
  (fc (by kernel_rfl)<| fc (by kernel_rfl)<| fc (by kernel_rfl)<| fc (by kernel_rfl)<| trivial)⟩
end Go.Proofs.YtlidmoeecphbmaaGreat
namespace Go.Proofs.YtlidmoeecphbmaaGreat
open Go.ChangeShapes Go.WideShapes Go.ChangeAt Go.RowKit
set_option linter.unusedVariables false
set_option linter.unusedSimpArgs false
set_option maxRecDepth 100000
set_option maxHeartbeats 4000000
abbrev bL (p:AV × List (Nat × Rs))(t:T):T:= .call p.1 p.2 t
abbrev oF (p:List AV × List (Nat × Rs) × AV × List (Nat × Rs))(r:List (Nat × Nat))(t:T):T:= .callx p.1 p.2.1 r p.2.2.1 p.2.2.2 t
abbrev rg (a n:Nat):List Nat:=List.range' a n
abbrev Br (p:Prop)[Decidable p](X Y:Prop):Prop:=(decide p=true→X)∧(decide p=false→Y)
abbrev Nb (p:Prop)[Decidable p](X Y:Prop):Prop:=((!decide p)=true→X)∧((!decide p)=false→Y)
abbrev Bb (b:Bool)(X Y:Prop):Prop:=(b=true→X)∧(b=false→Y)
abbrev Nr (b:Bool)(X Y:Prop):Prop:=((!b)=true→X)∧((!b)=false→Y)
theorem dd {p:Prop}[Decidable p]{X Y:Prop}(hx:p→X)(hy: ¬p→Y):Br p X Y:=⟨fun h=>hx (of_decide_eq_true h),fun h=>hy (of_decide_eq_false h)⟩
theorem dn {p:Prop}[Decidable p]{X Y:Prop}(hx: ¬p→X)(hy:p→Y):Nb p X Y:=⟨fun h=>hx (of_decide_eq_false (nt h)),fun h=>hy (of_decide_eq_true (nf h))⟩
theorem db {b:Bool}{X Y:Prop}(hx:b=true→X)(hy:b=false→Y):Bb b X Y:=⟨hx,hy⟩
theorem dm {b:Bool}{X Y:Prop}(hx:b=false→X)(hy:b=true→Y):Nr b X Y:=⟨fun h=>hx (nt h),fun h=>hy (nf h)⟩
theorem nq {p:Prop}[Decidable p](h:decide p=false): ¬p:=of_decide_eq_false h
abbrev Em {α:Type}(enc:α→List bT)(l:List α)(i:Nat)(P:α→Prop):Prop:=l.map enc=l.map enc∧i<l.length∧ ∀x,l[i]? =some x→P x
abbrev Lm {α:Type}(enc:α→List bT)(l:List α):Prop:=(l.map enc).length=l.length
def jQ (b:Bool):List bT:=[.bool b]
def aQi (s:ByteArray):Prop:=s.size≤maxLen
theorem aWA {A:Nat→Prop}{w:World}{s:ByteArray}:iE A w (.str s) (.string s):=by unfold iE;rfl
theorem rdI {w:World}{c:Value}{n:Int}(h:aQI w [c] n):iE (Lv w) w (.int .i64 n) c:=by
 have e:=h.1
 simp at e
 subst e;exact rdV_int
theorem rdS {w:World}{c:Value}{s:ByteArray}(h:aWx w [c] s):iE (Lv w) w (.str s) c:=by
 have e:=h.1
 simp at e
 subst e;exact aWA
theorem iY {n:Nat}{m:Int}(h: ¬aU n m<0):(n:Int)≤m:=by
 unfold aU at h
 split at h
 ·assumption
 ·omega
theorem jM {n:Nat}{m:Int}(h:aU n m<0): ¬(n:Int)≤m:=by
 unfold aU at h
 split at h
 ·omega
 ·assumption
theorem mQ {α:Type}{l:List α}{k:Nat}{x z:α}(h:l[k]? =some x):(l.take k++List.replicate (l.length - k) z).set k x=l.take (k+1)++List.replicate (l.length - (k+1)) z:=by
 have hk:k<l.length:=(List.getElem?_eq_some_iff.1 h).1
 rw[show l.length - k=(l.length - (k+1))+1 by omega,List.replicate_succ,List.set_append_right _ _ (by simp;omega),bU h]
 simp[show k - min k l.length=0 by omega]
theorem pR {α:Type}{l:List α}{k:Nat}{z:α}(h:k≤l.length):(l.take k++List.replicate (l.length - k) z).length=l.length:=by simp;omega
theorem mR {α:Type}{l:List α}{k:Nat}{z:α}(h:k≤l.length)(h' : ¬k<l.length):l.take k++List.replicate (l.length - k) z=l:=by
 rw[show k=l.length by omega];simp
theorem aXr {α:Type}{l:List α}{i:Nat}{x y:α}(h:(l.set i y)[i]? =some x):x=y:=by
 rw[List.getElem?_set_self'] at h
 cases hl:l[i]? with
 | none=>simp[hl] at h
 | some z=>simp[hl] at h;exact h.symm
theorem dE {α:Type}{l:List α}{k:Nat}(h:k<l.length): ∃x,l[k]? =some x:=⟨_,List.getElem?_eq_getElem h⟩
def aC (l:List Int):List bT:=[.sl 3 1 (l.map intD)]
def aDv (l:List Int):Prop:= ∀x∈l,Fits x
def cG (l:List Int):Nat:=l.length
theorem aJ7 (l:List Int):l.length≤cG l:=Nat.le_refl _
def aXs (l:List (List Int)):List bT:=[.sl 91 1 (l.map aC)]
def aGN (l:List (List Int)):Prop:= ∀x∈l,aDv x
def cT (l:List (List Int)):Nat:=aCB cG l
theorem fJ (l:List (List Int)):l.length≤cT l:=qT _ l
theorem aAW {l:List (List Int)}{k:Nat}{y:List Int}(h:l[k]? =some y):cG y≤cT l:=qU _ h
structure bA where
 name:ByteArray
 arity:Int
 rows:List (List Int)
 deriving DecidableEq
def aT (x:bA):List bT:=[.str x.name,.int .i64 x.arity,.sl 91 1 (x.rows.map aC)]
def aOS (x:bA):Prop:=aQi x.name∧Fits x.arity∧aGN x.rows
def gG (x:bA):Nat:=ByteArray.size x.name+cT x.rows
def gH:bA:=⟨ByteArray.empty,(0:Int),[]⟩
def aWB (l:List bA):List bT:=[.sl 142 3 (l.map aT)]
def aFR (l:List bA):Prop:= ∀x∈l,aOS x
def lB (l:List bA):Nat:=aCB gG l
theorem aDw (l:List bA):l.length≤lB l:=qT _ l
theorem aBI {l:List bA}{k:Nat}{y:bA}(h:l[k]? =some y):gG y≤lB l:=qU _ h
structure aV where
 tables:List bA
 deriving DecidableEq
def aQj (x:aV):List bT:=[.sl 142 3 (x.tables.map aT)]
def aDU (x:aV):Prop:=aFR x.tables
def bR (x:aV):Nat:=lB x.tables
structure dG where
 name:ByteArray
 vars:List Int
 deriving DecidableEq
def bM (x:dG):List bT:=[.str x.name,.sl 3 1 (x.vars.map intD)]
def aTO (x:dG):Prop:=aQi x.name∧aDv x.vars
def jU (x:dG):Nat:=ByteArray.size x.name+cG x.vars
def iR:dG:=⟨ByteArray.empty,[]⟩
def aXt (l:List dG):List bT:=[.sl 125 2 (l.map bM)]
def aKv (l:List dG):Prop:= ∀x∈l,aTO x
def jV (l:List dG):Nat:=aCB jU l
theorem aGO (l:List dG):l.length≤jV l:=qT _ l
theorem aDV {l:List dG}{k:Nat}{y:dG}(h:l[k]? =some y):jU y≤jV l:=qU _ h
structure QueryD where
 variableCount:Int
 atoms:List dG
 deriving DecidableEq
def aXu (x:QueryD):List bT:=[.int .i64 x.variableCount,.sl 125 2 (x.atoms.map bM)]
def aOT (x:QueryD):Prop:=Fits x.variableCount∧aKv x.atoms
def hY (x:QueryD):Nat:=jV x.atoms
structure aR where
 columns:List Int
 values:List (List Int)
 counts:List Int
 deriving DecidableEq
def aD (x:aR):List bT:=[.sl 3 1 (x.columns.map intD),.sl 91 1 (x.values.map aC),.sl 3 1 (x.counts.map intD)]
def xW (x:aR):Prop:=aDv x.columns∧aGN x.values∧aDv x.counts
def cA (x:aR):Nat:=cG x.columns+cT x.values+cG x.counts
def eL:aR:=⟨[],[],[]⟩
def aKw (l:List aR):List bT:=[.sl 220 3 (l.map aD)]
def qG (l:List aR):Prop:= ∀x∈l,xW x
def dP (l:List aR):Nat:=aCB cA l
theorem gI (l:List aR):l.length≤dP l:=qT _ l
theorem hZ {l:List aR}{k:Nat}{y:aR}(h:l[k]? =some y):cA y≤dP l:=qU _ h
structure aM where
 name:ByteArray
 arity:Int
 rowCount:Int
 groups:List aR
 deriving DecidableEq
def aG (x:aM):List bT:=[.str x.name,.int .i64 x.arity,.int .i64 x.rowCount,.sl 220 3 (x.groups.map aD)]
def xX (x:aM):Prop:=aQi x.name∧Fits x.arity∧Fits x.rowCount∧qG x.groups
def bI (x:aM):Nat:=ByteArray.size x.name+dP x.groups
def dQ:aM:=⟨ByteArray.empty,(0:Int),(0:Int),[]⟩
def aKx (l:List aM):List bT:=[.sl 88 4 (l.map aG)]
def qH (l:List aM):Prop:= ∀x∈l,xX x
def dZ (l:List aM):Nat:=aCB bI l
theorem tN (l:List aM):l.length≤dZ l:=qT _ l
theorem kM {l:List aM}{k:Nat}{y:aM}(h:l[k]? =some y):bI y≤dZ l:=qU _ h
structure cJ where
 version:Int
 tables:List aM
 deriving DecidableEq
def aOU (x:cJ):List bT:=[.int .i64 x.version,.sl 88 4 (x.tables.map aG)]
def aBJ (x:cJ):Prop:=Fits x.version∧qH x.tables
def bX (x:cJ):Nat:=dZ x.tables
def aGP:cJ:=⟨(0:Int),[]⟩
structure bD where
 name:ByteArray
 src:List Int
 dst:Int
 deriving DecidableEq
def aP (x:bD):List bT:=[.str x.name,.sl 3 1 (x.src.map intD),.int .i64 x.dst]
def xY (x:bD):Prop:=aQi x.name∧aDv x.src∧Fits x.dst
def dD (x:bD):Nat:=ByteArray.size x.name+cG x.src
def fD:bD:=⟨ByteArray.empty,[],(0:Int)⟩
def aKy (l:List bD):List bT:=[.sl 121 3 (l.map aP)]
def qI (l:List bD):Prop:= ∀x∈l,xY x
def cC (l:List bD):Nat:=aCB dD l
theorem tO (l:List bD):l.length≤cC l:=qT _ l
theorem aEy {l:List bD}{k:Nat}{y:bD}(h:l[k]? =some y):dD y≤cC l:=qU _ h
structure bB where
 name:ByteArray
 column:Int
 into:ByteArray
 intoColumn:Int
 deriving DecidableEq
def aS (x:bB):List bT:=[.str x.name,.int .i64 x.column,.str x.into,.int .i64 x.intoColumn]
def aBK (x:bB):Prop:=aQi x.name∧Fits x.column∧aQi x.into∧Fits x.intoColumn
def dO (x:bB):Nat:=ByteArray.size x.name+ByteArray.size x.into
def fA:bB:=⟨ByteArray.empty,(0:Int),ByteArray.empty,(0:Int)⟩
def aMW (l:List bB):List bT:=[.sl 123 4 (l.map aS)]
def sH (l:List bB):Prop:= ∀x∈l,aBK x
def cU (l:List bB):Nat:=aCB dO l
theorem eC (l:List bB):l.length≤cU l:=qT _ l
theorem aGQ {l:List bB}{k:Nat}{y:bB}(h:l[k]? =some y):dO y≤cU l:=qU _ h
structure StoreD where
 database:aV
 catalogue:cJ
 dependencies:List bD
 inclusions:List bB
 deriving DecidableEq
def aXv (x:StoreD):List bT:=[.sl 142 3 (x.database.tables.map aT),.int .i64 x.catalogue.version,.sl 88 4 (x.catalogue.tables.map aG),.sl 121 3 (x.dependencies.map aP),.sl 123 4 (x.inclusions.map aS)]
def aOV (x:StoreD):Prop:=aDU x.database∧aBJ x.catalogue∧qI x.dependencies∧sH x.inclusions
def dT (x:StoreD):Nat:=bR x.database+bX x.catalogue+cC x.dependencies+cU x.inclusions
structure aH where
 src:Int
 dst:Int
 bits:Int
 deriving DecidableEq
def aE (x:aH):List bT:=[.int .i64 x.src,.int .i64 x.dst,.int .i64 x.bits]
def aEz (x:aH):Prop:=Fits x.src∧Fits x.dst∧Fits x.bits
def oG (l:List aH):Prop:= ∀x∈l,aEz x
structure aB where
 num:Int
 den:Int
 deriving DecidableEq
def aA (x:aB):List bT:=[.int .i64 x.num,.int .i64 x.den]
def aF (l:List aB):List bT:=[.sl 38 2 (l.map aA)]
structure bZ where
 objective:List Int
 rows:List (List Int)
 limits:List Int
 deriving DecidableEq
def xZ (x:bZ):Nat:=cG x.objective+cT x.rows+cG x.limits
def nI:bZ:=⟨[],[],[]⟩
structure aJ where
 basic:List Int
 others:List Int
 table:List (List aB)
 limits:List aB
 costs:List aB
 value:aB
 deriving DecidableEq
structure aAX where
 value:aB
 primal:List aB
 dual:List aB
 deriving DecidableEq
theorem oH (s t:ByteArray):(s.toList==t.toList)=decide (s=t):=by
 rw[ByteArray.toList_eq,ByteArray.toList_eq]
 by_cases h:s=t
 ·simp[h]
 ·have: ¬s.data.toList=t.data.toList:=fun e=>h (by cases s;cases t;simp at e;simp[e])
  simp only[h,decide_false,beq_eq_false_iff_ne]
  exact this
theorem mS {α:Type}{l m:List α}{k:Nat}{x:α}(h:l[k]? =some x)(h' :m[k]? =some x)(e:l.take k=m.take k):l.take (k+1)=m.take (k+1):=by rw[bU h,bU h',e]
theorem aPd {α:Type}{l m:List α}{k:Nat}{x y:α}(h:l[k]? =some x)(h' :m[k]? =some y)(e: ¬x=y): ¬l=m:=by
 rintro rfl
 rw[h] at h'
 exact e (by injection h')
theorem aGR {α:Type}{l m:List α}(h: ¬(l.length:Int)=m.length): ¬l=m:=fun e=>h (by rw[e])
theorem mT {α:Type}{l m:List α}{k:Nat}(hk:l.length≤k)(hl:l.length=m.length)(e:l.take k=m.take k):l=m:=by rwa [List.take_of_length_le hk,List.take_of_length_le (by omega)] at e
abbrev qM (l:List Int)(m:List Int):Prop:=cH Tryz.prog 248 [.one (.sl 3 1 (l.map intD)),.one (.sl 3 1 (m.map intD))] (vB (decide (l=m))) []
theorem aCX (l m:List Int):qM l m:=by
 refine aW bH aO Tryz.func248 (by kernel_rfl) (.len l.length<| .len m.length<| .br (.fin []) (.len l.length<| .loop Nat (Q1 Nat) ([5]++rg 13 13) [] (fun k=>[(13,vI (k:Int))]) (fun k=>[]) (fun k=>k≤l.length∧l.take k=m.take k) (fun k=>l.length - k) (fun k=> .br (.elem _ intD l (fun e18=> .elem _ intD m (fun e22=> .br (.fin []) (.back [])))) (.fin [])))) (p:=(l.map intD).length≤9223372036854775807→(m.map intD).length≤9223372036854775807→Lm intD l∧(Lm intD m∧Nb ((l.length:Int)=(m.length:Int)) ((false)=(decide (l=m))∧True) (Lm intD l∧((∃(k:Nat),0=(k:Int)∧k≤l.length∧l.take k=m.take k)∧ ∀(k:Nat),(k≤l.length∧l.take k=m.take k)→Br ((k:Int)<(l.length:Int)) (0≤(k:Int)∧Em intD l k fun e18=>0≤(k:Int)∧Em intD m k fun e22=>Nb (e18=e22) ((false)=(decide (l=m))∧True) (bO ((k:Int)+1)∧ ∃(k' :Nat),((k:Int)+1)=(k' :Int)∧(k' ≤l.length∧l.take k' =m.take k')∧l.length - k' <l.length - k)) ((true)=(decide (l=m))∧True))))) (by kernel_rfl) ?_
 intro n0 n1
 simp only[List.length_map] at n0 n1
 refine⟨List.length_map _,List.length_map _,dn (fun c0=>?_) fun c0=>?_⟩
 ·refine⟨?_,trivial⟩
  ·(simp[aGR c0];done)
 ·have hl:l.length=m.length:=by omega
  refine⟨List.length_map _,⟨0,rfl,Nat.zero_le _,rfl⟩,fun k ⟨hk,ht⟩=>?_⟩
  refine dd (fun c1=>?_) fun c1=>?_
  ·obtain⟨x,hx⟩:=dE (l:=l) (k:=k) (by omega)
   obtain⟨y,hy⟩:=dE (l:=m) (k:=k) (by omega)
   refine⟨by omega,rfl,by omega,fun e18 h18=>?_⟩
   obtain rfl:=(aZ hx h18).symm
   refine⟨by omega,rfl,by omega,fun e22 h22=>?_⟩
   obtain rfl:=(aZ hy h22).symm
   refine dn (fun c2=>?_) fun c2=>?_
   ·have hxy: ¬x=y:=by simpa using c2
    refine⟨?_,trivial⟩
    ·(simp[aPd hx hy hxy];done)
   ·have hxy:x=y:=by simpa using c2
    refine⟨⟨by omega,by omega⟩,?_⟩
    exact⟨k+1,rfl,⟨by omega,mS hx (by rw[hy,hxy]) ht⟩,by omega⟩
  ·refine⟨?_,trivial⟩
   ·(simp[mT (by omega) hl ht];done)
abbrev aTP (l:List Int)(m:List Int):Prop:=cH Tryz.prog 259 [.one (.sl 3 1 (l.map intD)),.one (.sl 3 1 (m.map intD))] (vB (decide (l=m))) []
theorem aYr (l m:List Int):aTP l m:=by
 refine aW bH aO Tryz.func259 (by kernel_rfl) (.call (vB (decide (l=m))) []<| .fin []) (p:=(l.map intD).length≤9223372036854775807→(m.map intD).length≤9223372036854775807→qM l m∧(decide (l=m))=(decide (l=m))∧True) (by kernel_rfl) ?_
 intro n0 n1
 simp only[List.length_map] at n0 n1
 refine⟨aCX _ _,?_,trivial⟩
 ·rfl
abbrev aDx (l:List (List Int))(m:List (List Int)):Prop:=cH Tryz.prog 258 [.one (.sl 91 1 (l.map aC)),.one (.sl 91 1 (m.map aC)),.fn 259 []] (vB (decide (l=m))) []
theorem aQk (l m:List (List Int)):aDx l m:=by
 refine aW bH aO Tryz.func258 (by kernel_rfl) (.len l.length<| .len m.length<| .br (.fin []) (.len l.length<| .loop Nat (Q1 Nat) ([7,8,9]++rg 17 15) [] (fun k=>[(17,vI (k:Int))]) (fun k=>[]) (fun k=>k≤l.length∧l.take k=m.take k) (fun k=>l.length - k) (fun k=> .br (.elem _ aC l (fun e20=> .elem _ aC m (fun e24=> .call (vB (decide (e20=e24))) []<| .br (.fin []) (.back [])))) (.fin [])))) (p:=(l.map aC).length≤9223372036854775807→(m.map aC).length≤9223372036854775807→Lm aC l∧(Lm aC m∧Nb ((l.length:Int)=(m.length:Int)) ((false)=(decide (l=m))∧True) (Lm aC l∧((∃(k:Nat),0=(k:Int)∧k≤l.length∧l.take k=m.take k)∧ ∀(k:Nat),(k≤l.length∧l.take k=m.take k)→Br ((k:Int)<(l.length:Int)) (0≤(k:Int)∧Em aC l k fun e20=>0≤(k:Int)∧Em aC m k fun e24=>aTP e20 e24∧Nb (e20=e24) ((false)=(decide (l=m))∧True) (bO ((k:Int)+1)∧ ∃(k' :Nat),((k:Int)+1)=(k' :Int)∧(k' ≤l.length∧l.take k' =m.take k')∧l.length - k' <l.length - k)) ((true)=(decide (l=m))∧True))))) (by kernel_rfl) ?_
 intro n0 n1
 simp only[List.length_map] at n0 n1
 refine⟨List.length_map _,List.length_map _,dn (fun c0=>?_) fun c0=>?_⟩
 ·refine⟨?_,trivial⟩
  ·(simp[aGR c0];done)
 ·have hl:l.length=m.length:=by omega
  refine⟨List.length_map _,⟨0,rfl,Nat.zero_le _,rfl⟩,fun k ⟨hk,ht⟩=>?_⟩
  refine dd (fun c1=>?_) fun c1=>?_
  ·obtain⟨x,hx⟩:=dE (l:=l) (k:=k) (by omega)
   obtain⟨y,hy⟩:=dE (l:=m) (k:=k) (by omega)
   refine⟨by omega,rfl,by omega,fun e20 h20=>?_⟩
   obtain rfl:=(aZ hx h20).symm
   refine⟨by omega,rfl,by omega,fun e24 h24=>?_⟩
   obtain rfl:=(aZ hy h24).symm
   refine⟨aYr _ _,dn (fun c2=>?_) fun c2=>?_⟩
   ·have hxy: ¬x=y:=by simpa using c2
    refine⟨?_,trivial⟩
    ·(simp[aPd hx hy hxy];done)
   ·have hxy:x=y:=by simpa using c2
    refine⟨⟨by omega,by omega⟩,?_⟩
    exact⟨k+1,rfl,⟨by omega,mS hx (by rw[hy,hxy]) ht⟩,by omega⟩
  ·refine⟨?_,trivial⟩
   ·(simp[mT (by omega) hl ht];done)
abbrev aAm (l:List (List Int))(m:List (List Int)):Prop:=cH Tryz.prog 249 [.one (.sl 91 1 (l.map aC)),.one (.sl 91 1 (m.map aC))] (vB (decide (l=m))) []
theorem aMX (l m:List (List Int)):aAm l m:=by
 refine aW bH aO Tryz.func249 (by kernel_rfl) (.call (vB (decide (l=m))) []<| .fin []) (p:=(l.map aC).length≤9223372036854775807→(m.map aC).length≤9223372036854775807→aDx l m∧(decide (l=m))=(decide (l=m))∧True) (by kernel_rfl) ?_
 intro n0 n1
 simp only[List.length_map] at n0 n1
 refine⟨aQk _ _,?_,trivial⟩
 ·rfl
theorem rE (a b:aR):decide (a=b)=(decide (a.columns=b.columns)&&(decide (a.values=b.values)&&decide (a.counts=b.counts))):=by
 obtain⟨a0,a1,a2⟩:=a
 obtain⟨b0,b1,b2⟩:=b
 simp[Bool.and_assoc]
abbrev aGS (a:aR)(b:aR):Prop:=cH Tryz.prog 230 [.agg [.sl 3 1 (a.columns.map intD),.sl 91 1 (a.values.map aC),.sl 3 1 (a.counts.map intD)],.agg [.sl 3 1 (b.columns.map intD),.sl 91 1 (b.values.map aC),.sl 3 1 (b.counts.map intD)]] (vB (decide (a=b))) []
theorem aTQ (a b:aR):aGS a b:=by
 refine aW bH aO Tryz.func230 (by kernel_rfl) (.call (vB (decide (a.columns=b.columns))) []<| .br (.call (vB (decide (a.values=b.values))) []<| .lit<| .br (.call (vB (decide (a.counts=b.counts))) []<| .fin []) (.fin [])) (.fin [])) (p:=(a.columns.map intD).length≤9223372036854775807→(a.values.map aC).length≤9223372036854775807→(a.counts.map intD).length≤9223372036854775807→(b.columns.map intD).length≤9223372036854775807→(b.values.map aC).length≤9223372036854775807→(b.counts.map intD).length≤9223372036854775807→qM a.columns b.columns∧Br (a.columns=b.columns) (aAm a.values b.values∧Br (a.values=b.values) (qM a.counts b.counts∧(decide (a.counts=b.counts))=(decide (a=b))∧True) ((false)=(decide (a=b))∧True)) ((false)=(decide (a=b))∧True)) (by kernel_rfl) ?_
 intro n0 n1 n2 n3 n4 n5
 simp only[List.length_map] at n0 n1 n2 n3 n4 n5
 refine⟨aCX _ _,dd (fun g10=>?_) fun g10=>?_⟩
 ·refine⟨aMX _ _,dd (fun g17=>?_) fun g17=>?_⟩
  ·refine⟨aCX _ _,?_,trivial⟩
   ·(rw[rE];simp_all [oH];done)
  ·refine⟨?_,trivial⟩
   ·(rw[rE];simp_all [oH];done)
 ·refine⟨?_,trivial⟩
  ·(rw[rE];simp_all [oH];done)
abbrev sI (l:List aR)(m:List aR):Prop:=cH Tryz.prog 229 [.one (.sl 220 3 (l.map aD)),.one (.sl 220 3 (m.map aD)),.fn 230 []] (vB (decide (l=m))) []
theorem aFA (l m:List aR):sI l m:=by
 refine aW bH aO Tryz.func229 (by kernel_rfl) (.len l.length<| .len m.length<| .br (.fin []) (.len l.length<| .loop Nat (Q1 Nat) ([7,8,9]++rg 17 15) [800,900] (fun k=>[(17,vI (k:Int))]) (fun k=>[]) (fun k=>k≤l.length∧l.take k=m.take k) (fun k=>l.length - k) (fun k=> .br (.elem _ aD l (fun e20=> .elem _ aD m (fun e24=> .call (vB (decide (e20=e24))) []<| .br (.fin []) (.back [])))) (.fin [])))) (p:=(l.map aD).length≤9223372036854775807→(m.map aD).length≤9223372036854775807→Lm aD l∧(Lm aD m∧Nb ((l.length:Int)=(m.length:Int)) ((false)=(decide (l=m))∧True) (Lm aD l∧((∃(k:Nat),0=(k:Int)∧k≤l.length∧l.take k=m.take k)∧ ∀(k:Nat),(k≤l.length∧l.take k=m.take k)→Br ((k:Int)<(l.length:Int)) (0≤(k:Int)∧Em aD l k fun e20=>0≤(k:Int)∧Em aD m k fun e24=>aGS e20 e24∧Nb (e20=e24) ((false)=(decide (l=m))∧True) (bO ((k:Int)+1)∧ ∃(k' :Nat),((k:Int)+1)=(k' :Int)∧(k' ≤l.length∧l.take k' =m.take k')∧l.length - k' <l.length - k)) ((true)=(decide (l=m))∧True))))) (by kernel_rfl) ?_
 intro n0 n1
 simp only[List.length_map] at n0 n1
 refine⟨List.length_map _,List.length_map _,dn (fun c0=>?_) fun c0=>?_⟩
 ·refine⟨?_,trivial⟩
  ·(simp[aGR c0];done)
 ·have hl:l.length=m.length:=by omega
  refine⟨List.length_map _,⟨0,rfl,Nat.zero_le _,rfl⟩,fun k ⟨hk,ht⟩=>?_⟩
  refine dd (fun c1=>?_) fun c1=>?_
  ·obtain⟨x,hx⟩:=dE (l:=l) (k:=k) (by omega)
   obtain⟨y,hy⟩:=dE (l:=m) (k:=k) (by omega)
   refine⟨by omega,rfl,by omega,fun e20 h20=>?_⟩
   obtain rfl:=(aZ hx h20).symm
   refine⟨by omega,rfl,by omega,fun e24 h24=>?_⟩
   obtain rfl:=(aZ hy h24).symm
   refine⟨aTQ _ _,dn (fun c2=>?_) fun c2=>?_⟩
   ·have hxy: ¬x=y:=by simpa using c2
    refine⟨?_,trivial⟩
    ·(simp[aPd hx hy hxy];done)
   ·have hxy:x=y:=by simpa using c2
    refine⟨⟨by omega,by omega⟩,?_⟩
    exact⟨k+1,rfl,⟨by omega,mS hx (by rw[hy,hxy]) ht⟩,by omega⟩
  ·refine⟨?_,trivial⟩
   ·(simp[mT (by omega) hl ht];done)
theorem gQ (a b:aM):decide (a=b)=(decide (a.name=b.name)&&(decide (a.arity=b.arity)&&(decide (a.rowCount=b.rowCount)&&decide (a.groups=b.groups)))):=by
 obtain⟨a0,a1,a2,a3⟩:=a
 obtain⟨b0,b1,b2,b3⟩:=b
 simp[Bool.and_assoc]
abbrev nJ (a:aM)(b:aM):Prop:=cH Tryz.prog 188 [.agg [.str a.name,.int .i64 a.arity,.int .i64 a.rowCount,.sl 220 3 (a.groups.map aD)],.agg [.str b.name,.int .i64 b.arity,.int .i64 b.rowCount,.sl 220 3 (b.groups.map aD)]] (vB (decide (a=b))) []
theorem uW (a b:aM):nJ a b:=by
 refine aW bH aO Tryz.func188 (by kernel_rfl) (.br (.lit<| .lit<| .lit<| .lit<| .lit<| .br (.lit<| .lit<| .lit<| .lit<| .lit<| .br (.call (vB (decide (a.groups=b.groups))) []<| .fin []) (.fin [])) (.fin [])) (.fin [])) (p:=(a.groups.map aD).length≤9223372036854775807→(b.groups.map aD).length≤9223372036854775807→Bb (a.name.toList==b.name.toList) (Br (a.arity=b.arity) (Br (a.rowCount=b.rowCount) (sI a.groups b.groups∧(decide (a.groups=b.groups))=(decide (a=b))∧True) ((false)=(decide (a=b))∧True)) ((false)=(decide (a=b))∧True)) ((false)=(decide (a=b))∧True)) (by kernel_rfl) ?_
 intro n0 n1
 simp only[List.length_map] at n0 n1
 refine db (fun g10=>?_) fun g10=>?_
 ·refine dd (fun g17=>?_) fun g17=>?_
  ·refine dd (fun g24=>?_) fun g24=>?_
   ·refine⟨aFA _ _,?_,trivial⟩
    ·(rw[gQ];simp_all [oH];done)
   ·refine⟨?_,trivial⟩
    ·(rw[gQ];simp_all [oH];done)
  ·refine⟨?_,trivial⟩
   ·(rw[gQ];simp_all [oH];done)
 ·refine⟨?_,trivial⟩
  ·(rw[gQ];simp_all [oH];done)
abbrev sJ (l:List aM)(m:List aM):Prop:=cH Tryz.prog 187 [.one (.sl 88 4 (l.map aG)),.one (.sl 88 4 (m.map aG)),.fn 188 []] (vB (decide (l=m))) []
theorem aFB (l m:List aM):sJ l m:=by
 refine aW bH aO Tryz.func187 (by kernel_rfl) (.len l.length<| .len m.length<| .br (.fin []) (.len l.length<| .loop Nat (Q1 Nat) ([7,8,9]++rg 17 15) [800,900] (fun k=>[(17,vI (k:Int))]) (fun k=>[]) (fun k=>k≤l.length∧l.take k=m.take k) (fun k=>l.length - k) (fun k=> .br (.elem _ aG l (fun e20=> .elem _ aG m (fun e24=> .call (vB (decide (e20=e24))) []<| .br (.fin []) (.back [])))) (.fin [])))) (p:=(l.map aG).length≤9223372036854775807→(m.map aG).length≤9223372036854775807→Lm aG l∧(Lm aG m∧Nb ((l.length:Int)=(m.length:Int)) ((false)=(decide (l=m))∧True) (Lm aG l∧((∃(k:Nat),0=(k:Int)∧k≤l.length∧l.take k=m.take k)∧ ∀(k:Nat),(k≤l.length∧l.take k=m.take k)→Br ((k:Int)<(l.length:Int)) (0≤(k:Int)∧Em aG l k fun e20=>0≤(k:Int)∧Em aG m k fun e24=>nJ e20 e24∧Nb (e20=e24) ((false)=(decide (l=m))∧True) (bO ((k:Int)+1)∧ ∃(k' :Nat),((k:Int)+1)=(k' :Int)∧(k' ≤l.length∧l.take k' =m.take k')∧l.length - k' <l.length - k)) ((true)=(decide (l=m))∧True))))) (by kernel_rfl) ?_
 intro n0 n1
 simp only[List.length_map] at n0 n1
 refine⟨List.length_map _,List.length_map _,dn (fun c0=>?_) fun c0=>?_⟩
 ·refine⟨?_,trivial⟩
  ·(simp[aGR c0];done)
 ·have hl:l.length=m.length:=by omega
  refine⟨List.length_map _,⟨0,rfl,Nat.zero_le _,rfl⟩,fun k ⟨hk,ht⟩=>?_⟩
  refine dd (fun c1=>?_) fun c1=>?_
  ·obtain⟨x,hx⟩:=dE (l:=l) (k:=k) (by omega)
   obtain⟨y,hy⟩:=dE (l:=m) (k:=k) (by omega)
   refine⟨by omega,rfl,by omega,fun e20 h20=>?_⟩
   obtain rfl:=(aZ hx h20).symm
   refine⟨by omega,rfl,by omega,fun e24 h24=>?_⟩
   obtain rfl:=(aZ hy h24).symm
   refine⟨uW _ _,dn (fun c2=>?_) fun c2=>?_⟩
   ·have hxy: ¬x=y:=by simpa using c2
    refine⟨?_,trivial⟩
    ·(simp[aPd hx hy hxy];done)
   ·have hxy:x=y:=by simpa using c2
    refine⟨⟨by omega,by omega⟩,?_⟩
    exact⟨k+1,rfl,⟨by omega,mS hx (by rw[hy,hxy]) ht⟩,by omega⟩
  ·refine⟨?_,trivial⟩
   ·(simp[mT (by omega) hl ht];done)
theorem oY (a b:cJ):decide (a=b)=(decide (a.version=b.version)&&decide (a.tables=b.tables)):=by
 obtain⟨a0,a1⟩:=a
 obtain⟨b0,b1⟩:=b
 simp[Bool.and_assoc]
abbrev aCY (a:cJ)(b:cJ):Prop:=cH Tryz.prog 132 [.agg [.int .i64 a.version,.sl 88 4 (a.tables.map aG)],.agg [.int .i64 b.version,.sl 88 4 (b.tables.map aG)]] (vB (decide (a=b))) []
theorem aOW (a b:cJ):aCY a b:=by
 refine aW bH aO Tryz.func132 (by kernel_rfl) (.br (.call (vB (decide (a.tables=b.tables))) []<| .fin []) (.fin [])) (p:=(a.tables.map aG).length≤9223372036854775807→(b.tables.map aG).length≤9223372036854775807→Br (a.version=b.version) (sJ a.tables b.tables∧(decide (a.tables=b.tables))=(decide (a=b))∧True) ((false)=(decide (a=b))∧True)) (by kernel_rfl) ?_
 intro n0 n1
 simp only[List.length_map] at n0 n1
 refine dd (fun g10=>?_) fun g10=>?_
 ·refine⟨aFB _ _,?_,trivial⟩
  ·(rw[oY];simp_all [oH];done)
 ·refine⟨?_,trivial⟩
  ·(rw[oY];simp_all [oH];done)
def cF:List Int→List Int→Int
 | [],[]=>0
 | [],_::_=> -1
 | _::_,[]=>1
 | a::l,b::m=>if a<b then -1 else if b<a then 1 else cF l m
theorem eV: ∀{l m:List Int},cF l m=0↔l=m
 | [],[]=>by simp[cF]
 | [],_::_=>by simp[cF]
 | _::_,[]=>by simp[cF]
 | a::l,b::m=>by
   unfold cF
   split
   ·simp;omega
   ·split
    ·simp;omega
    ·rw[eV]
     have:a=b:=by omega
     simp[this]
theorem lP {α:Type}{l:List α}{k:Nat}{x:α}(h:l[k]? =some x):l.drop k=x::l.drop (k+1):=by
 obtain⟨hk,rfl⟩:=List.getElem?_eq_some_iff.1 h
 exact List.drop_eq_getElem_cons hk
theorem yA {α:Type}{l:List α}{k:Nat}(h:l.length≤k):l.drop k= []:=List.drop_eq_nil_of_le h
theorem jW {l m:List Int}{k:Nat}(hk:k≤l.length∧k≤m.length)(hs: ¬k<l.length∨ ¬k<m.length):cF (l.drop k) (m.drop k)=if l.length<m.length then -1 else if m.length<l.length then 1 else 0:=by
 by_cases h1:k<l.length
 ·obtain⟨x,hx⟩:=dE h1
  rw[lP hx,yA (l:=m) (by omega),cF,if_neg (by omega),if_pos (by omega)]
 ·rw[yA (l:=l) (by omega)]
  by_cases h2:k<m.length
  ·obtain⟨x,hx⟩:=dE h2
   rw[lP hx,cF,if_pos (by omega)]
  ·rw[yA (l:=m) (by omega),cF,if_neg (by omega),if_neg (by omega)]
abbrev fR (l:List Int)(m:List Int):Prop:=cH Tryz.prog 221 [.one (.sl 3 1 (l.map intD)),.one (.sl 3 1 (m.map intD))] (vI (cF l m)) []
theorem jF (l m:List Int):fR l m:=by
 refine aW bH aO Tryz.func221 (by kernel_rfl) (.loop Nat (Q1 Nat) (rg 5 31) [] (fun k=>[(5,vI (k:Int))]) (fun k=>[]) (fun k=>(k≤l.length∧k≤m.length)∧cF (l.drop k) (m.drop k)=cF l m) (fun k=>l.length - k) (fun k=> .len l.length<| .br (.len m.length<| .lit<| .lit<| .br (.elem _ intD l (fun e20=> .elem _ intD m (fun e24=> .br (.fin []) (.elem _ intD l (fun e29=> .elem _ intD m (fun e33=> .br (.fin []) (.back []))))))) (.len l.length<| .len m.length<| .br (.fin []) (.len l.length<| .len m.length<| .br (.fin []) (.fin [])))) (.len l.length<| .len m.length<| .br (.fin []) (.len l.length<| .len m.length<| .br (.fin []) (.fin []))))) (p:=(l.map intD).length≤9223372036854775807→(m.map intD).length≤9223372036854775807→(∃(k:Nat),0=(k:Int)∧(k≤l.length∧k≤m.length)∧cF (l.drop k) (m.drop k)=cF l m)∧ ∀(k:Nat),((k≤l.length∧k≤m.length)∧cF (l.drop k) (m.drop k)=cF l m)→Lm intD l∧Br ((k:Int)<(l.length:Int)) (Lm intD m∧Br ((k:Int)<(m.length:Int)) (0≤(k:Int)∧Em intD l k fun e20=>0≤(k:Int)∧Em intD m k fun e24=>Br (e20<e24) ((-1:Int)=(cF l m)∧True) (0≤(k:Int)∧Em intD l k fun e29=>0≤(k:Int)∧Em intD m k fun e33=>Br (e33<e29) (1=(cF l m)∧True) (bO ((k:Int)+1)∧ ∃(k' :Nat),((k:Int)+1)=(k' :Int)∧((k' ≤l.length∧k' ≤m.length)∧cF (l.drop k') (m.drop k')=cF l m)∧l.length - k' <l.length - k))) (Lm intD l∧Lm intD m∧Br ((l.length:Int)<(m.length:Int)) ((-1:Int)=(cF l m)∧True) (Lm intD l∧Lm intD m∧Br ((m.length:Int)<(l.length:Int)) (1=(cF l m)∧True) (0=(cF l m)∧True)))) (Lm intD l∧Lm intD m∧Br ((l.length:Int)<(m.length:Int)) ((-1:Int)=(cF l m)∧True) (Lm intD l∧Lm intD m∧Br ((m.length:Int)<(l.length:Int)) (1=(cF l m)∧True) (0=(cF l m)∧True)))) (by kernel_rfl) ?_
 intro n0 n1
 simp only[List.length_map] at n0 n1
 refine⟨⟨0,rfl,⟨Nat.zero_le _,Nat.zero_le _⟩,rfl⟩,fun k ⟨hk,hv⟩=>?_⟩
 refine⟨List.length_map _,dd (fun g10=>?_) fun g10=>?_⟩
 ·refine⟨List.length_map _,dd (fun c0=>?_) fun c0=>?_⟩
  ·obtain⟨x,hx⟩:=dE (l:=l) (k:=k) (by omega)
   obtain⟨y,hy⟩:=dE (l:=m) (k:=k) (by omega)
   have hd:cF l m=if x<y then -1 else if y<x then 1 else cF (l.drop (k+1)) (m.drop (k+1)):=by rw[←hv,lP hx,lP hy,cF]
   refine⟨by omega,rfl,by omega,fun e20 h20=>?_⟩
   obtain rfl:=(aZ hx h20).symm
   refine⟨by omega,rfl,by omega,fun e24 h24=>?_⟩
   obtain rfl:=(aZ hy h24).symm
   refine dd (fun c1=>?_) fun c1=>?_
   ·refine⟨?_,trivial⟩
    ·(rw[hd,if_pos c1];done)
   ·refine⟨by omega,rfl,by omega,fun e29 h29=>?_⟩
    obtain rfl:=(aZ hx h29).symm
    refine⟨by omega,rfl,by omega,fun e33 h33=>?_⟩
    obtain rfl:=(aZ hy h33).symm
    refine dd (fun c2=>?_) fun c2=>?_
    ·refine⟨?_,trivial⟩
     ·(rw[hd,if_neg c1,if_pos c2];done)
    ·refine⟨⟨by omega,by omega⟩,?_⟩
     exact⟨k+1,rfl,⟨by omega,by rw[hd,if_neg c1,if_neg c2]⟩,by omega⟩
  ·refine⟨List.length_map _,List.length_map _,dd (fun c3=>?_) fun c3=>?_⟩
   ·refine⟨?_,trivial⟩
    ·(rw[←hv,jW hk (by omega),if_pos (by omega)];done)
   ·refine⟨List.length_map _,List.length_map _,dd (fun c4=>?_) fun c4=>?_⟩
    ·refine⟨?_,trivial⟩
     ·(rw[←hv,jW hk (by omega),if_neg (by omega),if_pos (by omega)];done)
    ·refine⟨?_,trivial⟩
     ·(rw[←hv,jW hk (by omega),if_neg (by omega),if_neg (by omega)];done)
 ·refine⟨List.length_map _,List.length_map _,dd (fun c3=>?_) fun c3=>?_⟩
  ·refine⟨?_,trivial⟩
   ·(rw[←hv,jW hk (by omega),if_pos (by omega)];done)
  ·refine⟨List.length_map _,List.length_map _,dd (fun c4=>?_) fun c4=>?_⟩
   ·refine⟨?_,trivial⟩
    ·(rw[←hv,jW hk (by omega),if_neg (by omega),if_pos (by omega)];done)
   ·refine⟨?_,trivial⟩
    ·(rw[←hv,jW hk (by omega),if_neg (by omega),if_neg (by omega)];done)
theorem aXw {x y:aR}(h1:x.columns=y.columns)(h2:x.values=y.values)(h3:x.counts=y.counts):x=y:=by
 obtain⟨a,b,c⟩:=x
 obtain⟨d,e,f⟩:=y
 simp at h1 h2 h3
 subst h1 h2 h3
 rfl
abbrev rF (a:aM)(b:aM):Prop:=cH Tryz.prog 179 [.agg [.str a.name,.int .i64 a.arity,.int .i64 a.rowCount,.sl 220 3 (a.groups.map aD)],.agg [.str b.name,.int .i64 b.arity,.int .i64 b.rowCount,.sl 220 3 (b.groups.map aD)]] (vB (decide (a=b))) []
theorem aCZ (a b:aM)(ha:bI a≤1048576):rF a b:=by
 refine aW bH aO Tryz.func179 (by kernel_rfl) (.br (.fin []) (.lit<| .lit<| .lit<| .lit<| .lit<| .br (.fin []) (.lit<| .lit<| .lit<| .lit<| .lit<| .br (.fin []) (.len a.groups.length<| .len b.groups.length<| .lit<| .lit<| .br (.fin []) (.loop Nat (Q1 Nat) ([5,6,7,8]++rg 37 59) [600,700] (fun i=>[(5,vI (i:Int))]) (fun i=>[]) (fun i=>i≤a.groups.length∧a.groups.take i=b.groups.take i) (fun i=>a.groups.length - i) (fun i=> .len a.groups.length<| .br (.elem _ aD a.groups (fun e47=> .elem _ aD b.groups (fun e52=> .call (vI (cF e47.columns e52.columns)) []<| .br (.fin []) (.call (vI (cF e47.counts e52.counts)) []<| .lit<| .lit<| .br (.fin []) (.len e47.values.length<| .len e52.values.length<| .lit<| .lit<| .br (.fin []) (.loop Nat (Q1 Nat) ([8]++rg 77 19) [] (fun k=>[(8,vI (k:Int))]) (fun k=>[]) (fun k=>k≤e47.values.length∧e47.values.take k=e52.values.take k) (fun k=>e47.values.length - k) (fun k=> .len e47.values.length<| .br (.elem _ aC e47.values (fun e87=> .elem _ aC e52.values (fun e92=> .call (vI (cF e87 e92)) []<| .br (.fin []) (.back [])))) (.back [])))))))) (.fin []))))))) (p:=(a.groups.map aD).length≤9223372036854775807→(b.groups.map aD).length≤9223372036854775807→Nr (a.name.toList==b.name.toList) ((false)=(decide (a=b))∧True) (Nb (a.arity=b.arity) ((false)=(decide (a=b))∧True) (Nb (a.rowCount=b.rowCount) ((false)=(decide (a=b))∧True) (Lm aD a.groups∧(Lm aD b.groups∧Nb ((a.groups.length:Int)=(b.groups.length:Int)) ((false)=(decide (a=b))∧True) ((∃(i:Nat),0=(i:Int)∧i≤a.groups.length∧a.groups.take i=b.groups.take i)∧ ∀(i:Nat),(i≤a.groups.length∧a.groups.take i=b.groups.take i)→Lm aD a.groups∧Br ((i:Int)<(a.groups.length:Int)) (0≤(i:Int)∧Em aD a.groups i fun e47=>0≤(i:Int)∧Em aD b.groups i fun e52=>fR e47.columns e52.columns∧Nb ((cF e47.columns e52.columns)=0) ((false)=(decide (a=b))∧True) (fR e47.counts e52.counts∧Nb ((cF e47.counts e52.counts)=0) ((false)=(decide (a=b))∧True) (Lm aC e47.values∧(Lm aC e52.values∧Nb ((e47.values.length:Int)=(e52.values.length:Int)) ((false)=(decide (a=b))∧True) ((∃(k:Nat),0=(k:Int)∧k≤e47.values.length∧e47.values.take k=e52.values.take k)∧ ∀(k:Nat),(k≤e47.values.length∧e47.values.take k=e52.values.take k)→Lm aC e47.values∧Br ((k:Int)<(e47.values.length:Int)) (0≤(k:Int)∧Em aC e47.values k fun e87=>0≤(k:Int)∧Em aC e52.values k fun e92=>fR e87 e92∧Nb ((cF e87 e92)=0) ((false)=(decide (a=b))∧True) (bO ((k:Int)+1)∧ ∃(k' :Nat),((k:Int)+1)=(k' :Int)∧(k' ≤e47.values.length∧e47.values.take k' =e52.values.take k')∧e47.values.length - k' <e47.values.length - k)) (bO ((i:Int)+1)∧ ∃(i' :Nat),((i:Int)+1)=(i' :Int)∧(i' ≤a.groups.length∧a.groups.take i' =b.groups.take i')∧a.groups.length - i' <a.groups.length - i)))))) ((true)=(decide (a=b))∧True))))))) (by kernel_rfl) ?_
 intro n0 n1
 simp only[List.length_map] at n0 n1
 refine dm (fun g14=>?_) fun g14=>?_
 ·refine⟨?_,trivial⟩
  ·(rw[gQ];simp_all [oH];done)
 ·refine dn (fun g21=>?_) fun g21=>?_
  ·refine⟨?_,trivial⟩
   ·(rw[gQ];simp_all [oH];done)
  ·refine dn (fun g28=>?_) fun g28=>?_
   ·refine⟨?_,trivial⟩
    ·(rw[gQ];simp_all [oH];done)
   ·refine⟨List.length_map _,List.length_map _,dn (fun c0=>?_) fun c0=>?_⟩
    ·have hne: ¬a=b:=fun e=>c0 (by rw[e])
     refine⟨?_,trivial⟩
     ·(simp[hne];done)
    ·have hl:a.groups.length=b.groups.length:=by omega
     refine⟨⟨0,rfl,Nat.zero_le _,rfl⟩,fun i ⟨hi,ht⟩=>?_⟩
     refine⟨List.length_map _,dd (fun c1=>?_) fun c1=>?_⟩
     ·refine⟨by omega,rfl,by omega,fun e47 h47=>?_⟩
      have q1:=hZ h47
      have q2:bI a=a.name.size+dP a.groups:=rfl
      have q3:cA e47=cG e47.columns+cT e47.values+cG e47.counts:=rfl
      have q4:=fJ e47.values
      refine⟨by omega,rfl,by omega,fun e52 h52=>?_⟩
      refine⟨jF _ _,dn (fun g60=>?_) fun g60=>?_⟩
      ·have hne: ¬a=b:=fun e=>by subst e;have q:=aZ h47 h52;subst q;exact g60 (eV.2 rfl)
       refine⟨?_,trivial⟩
       ·(simp[hne];done)
      ·refine⟨jF _ _,dn (fun g68=>?_) fun g68=>?_⟩
       ·have hne: ¬a=b:=fun e=>by subst e;have q:=aZ h47 h52;subst q;exact g68 (eV.2 rfl)
        refine⟨?_,trivial⟩
        ·(simp[hne];done)
       ·refine⟨List.length_map _,List.length_map _,dn (fun c2=>?_) fun c2=>?_⟩
        ·have hne: ¬a=b:=fun e=>by subst e;have q:=aZ h47 h52;subst q;exact c2 rfl
         refine⟨?_,trivial⟩
         ·(simp[hne];done)
        ·refine⟨⟨0,rfl,Nat.zero_le _,rfl⟩,fun k ⟨hk,hv⟩=>?_⟩
         refine⟨List.length_map _,dd (fun c3=>?_) fun c3=>?_⟩
         ·refine⟨by omega,rfl,by omega,fun e87 h87=>?_⟩
          refine⟨by omega,rfl,by omega,fun e92 h92=>?_⟩
          refine⟨jF _ _,dn (fun c4=>?_) fun c4=>?_⟩
          ·have hne: ¬a=b:=fun e=>by subst e;have q:=aZ h47 h52;subst q;have q:=aZ h87 h92;subst q;exact c4 (eV.2 rfl)
           refine⟨?_,trivial⟩
           ·(simp[hne];done)
          ·refine⟨⟨by omega,by omega⟩,?_⟩
           exact⟨k+1,rfl,⟨by omega,mS h87 (by rw[h92,eV.1 c4]) hv⟩,by omega⟩
         ·have hxy:e52=e47:=(aXw (eV.1 g60) (mT (by omega) (by omega) hv) (eV.1 g68)).symm
          refine⟨⟨by omega,by omega⟩,?_⟩
          exact⟨i+1,rfl,⟨by omega,mS h47 (by rw[h52,hxy]) ht⟩,by omega⟩
     ·have hg:=mT (by omega) hl ht
      refine⟨?_,trivial⟩
      ·(rw[gQ];simp_all [oH];done)
abbrev aC0 (a:cJ)(b:cJ):Prop:=cH Tryz.prog 123 [.agg [.int .i64 a.version,.sl 88 4 (a.tables.map aG)],.agg [.int .i64 b.version,.sl 88 4 (b.tables.map aG)]] (vB (decide (a=b))) []
theorem aOX (a b:cJ)(ha:bX a≤1048576):aC0 a b:=by
 refine aW bH aO Tryz.func123 (by kernel_rfl) (.br (.fin []) (.len a.tables.length<| .len b.tables.length<| .lit<| .lit<| .br (.fin []) (.loop Nat (Q1 Nat) ([5]++rg 20 19) [] (fun k=>[(5,vI (k:Int))]) (fun k=>[]) (fun k=>k≤a.tables.length∧a.tables.take k=b.tables.take k) (fun k=>a.tables.length - k) (fun k=> .len a.tables.length<| .br (.elem _ aG a.tables (fun e30=> .elem _ aG b.tables (fun e35=> .call (vB (decide (e30=e35))) []<| .br (.fin []) (.back [])))) (.fin []))))) (p:=(a.tables.map aG).length≤9223372036854775807→(b.tables.map aG).length≤9223372036854775807→Nb (a.version=b.version) ((false)=(decide (a=b))∧True) (Lm aG a.tables∧(Lm aG b.tables∧Nb ((a.tables.length:Int)=(b.tables.length:Int)) ((false)=(decide (a=b))∧True) ((∃(k:Nat),0=(k:Int)∧k≤a.tables.length∧a.tables.take k=b.tables.take k)∧ ∀(k:Nat),(k≤a.tables.length∧a.tables.take k=b.tables.take k)→Lm aG a.tables∧Br ((k:Int)<(a.tables.length:Int)) (0≤(k:Int)∧Em aG a.tables k fun e30=>0≤(k:Int)∧Em aG b.tables k fun e35=>rF e30 e35∧Nb (e30=e35) ((false)=(decide (a=b))∧True) (bO ((k:Int)+1)∧ ∃(k' :Nat),((k:Int)+1)=(k' :Int)∧(k' ≤a.tables.length∧a.tables.take k' =b.tables.take k')∧a.tables.length - k' <a.tables.length - k)) ((true)=(decide (a=b))∧True))))) (by kernel_rfl) ?_
 intro n0 n1
 simp only[List.length_map] at n0 n1
 have hS:bX a=dZ a.tables:=rfl
 refine dn (fun g11=>?_) fun g11=>?_
 ·refine⟨?_,trivial⟩
  ·(rw[oY];simp_all;done)
 ·refine⟨List.length_map _,List.length_map _,dn (fun c0=>?_) fun c0=>?_⟩
  ·have hne: ¬a=b:=fun e=>c0 (by rw[e])
   refine⟨?_,trivial⟩
   ·(simp[hne];done)
  ·have hl:a.tables.length=b.tables.length:=by omega
   refine⟨⟨0,rfl,Nat.zero_le _,rfl⟩,fun k ⟨hk,ht⟩=>?_⟩
   refine⟨List.length_map _,dd (fun c1=>?_) fun c1=>?_⟩
   ·refine⟨by omega,rfl,by omega,fun e30 h30=>?_⟩
    refine⟨by omega,rfl,by omega,fun e35 h35=>?_⟩
    refine⟨aCZ _ _ (by have:=kM h30;omega),dn (fun c2=>?_) fun c2=>?_⟩
    ·have hne: ¬a=b:=fun e=>by subst e;exact c2 (aZ h35 h30)
     refine⟨?_,trivial⟩
     ·(simp[hne];done)
    ·refine⟨⟨by omega,by omega⟩,?_⟩
     exact⟨k+1,rfl,⟨by omega,mS h30 (by rw[h35,c2]) ht⟩,by omega⟩
   ·have hg:=mT (by omega) hl ht
    refine⟨?_,trivial⟩
    ·(rw[oY];simp_all;done)
abbrev eW (n:Int)(a:Int)(b:Int):Prop:=cH Tryz.prog 83 [.one (.int .i64 n),.one (.int .i64 a),.one (.int .i64 b)] (vB (eI n a b)) []
theorem iV (n a b:Int):eW n a b:=by
 refine aW bH aO Tryz.func83 (by kernel_rfl) (.br (.fin []) (.fin [])) (p:=Br (a≤n) ((decide (n≤b))=(eI n a b)∧True) ((false)=(eI n a b)∧True)) (by kernel_rfl) ?_
 refine dd (fun g10=>?_) fun g10=>?_
 ·refine⟨?_,trivial⟩
  ·(simp[eI,g10];done)
 ·refine⟨?_,trivial⟩
  ·(simp[eI,g10];done)
abbrev eX (n:Int)(a:Int)(b:Int):Prop:=cH Tryz.prog 74 [.one (.int .i64 n),.one (.int .i64 a),.one (.int .i64 b)] (vB (eI n a b)) []
theorem iW (n a b:Int):eX n a b:=by
 refine aW bH aO Tryz.func74 (by kernel_rfl) (.br (.fin []) (.fin [])) (p:=Br (a≤n) ((decide (n≤b))=(eI n a b)∧True) ((false)=(eI n a b)∧True)) (by kernel_rfl) ?_
 refine dd (fun g10=>?_) fun g10=>?_
 ·refine⟨?_,trivial⟩
  ·(simp[eI,g10];done)
 ·refine⟨?_,trivial⟩
  ·(simp[eI,g10];done)
def aC1 (v:Int):Bool:=eI v 0 9
def jX (n:Int)(r:List Int):Bool:=r.all aC1&&decide ((r.length:Int)=n)
def gJ (s:ByteArray):Bool:=decide ((s.size:Int)=1)&&(decide (97≤uT s 0)&&decide (uT s 0≤122))
abbrev aGT (r:List Int)(n:Int):Prop:=cH Tryz.prog 237 [.one (.sl 3 1 (r.map intD)),.one (.int .i64 n)] (vB (jX n r)) []
theorem aTR (r:List Int)(n:Int):aGT r n:=by
 refine aW bH aO Tryz.func237 (by kernel_rfl) (.len r.length<| .loop Nat (Q1 Nat) ([6]++rg 9 8) [] (fun k=>[(9,vI (k:Int))]) (fun k=>[]) (fun k=>k≤r.length∧(r.take k).all aC1=true) (fun k=>r.length - k) (fun k=> .br (.elem _ intD r (fun e11=> .call (vB (eI e11 (0:Int) (9:Int))) []<| .br (.fin []) (.back []))) (.len r.length<| .fin []))) (p:=(r.map intD).length≤9223372036854775807→Lm intD r∧((∃(k:Nat),0=(k:Int)∧k≤r.length∧(r.take k).all aC1=true)∧ ∀(k:Nat),(k≤r.length∧(r.take k).all aC1=true)→Br ((k:Int)<(r.length:Int)) (0≤(k:Int)∧Em intD r k fun e11=>eW e11 (0:Int) (9:Int)∧Nr (eI e11 (0:Int) (9:Int)) ((false)=(jX n r)∧True) (bO ((k:Int)+1)∧ ∃(k' :Nat),((k:Int)+1)=(k' :Int)∧(k' ≤r.length∧(r.take k').all aC1=true)∧r.length - k' <r.length - k)) (Lm intD r∧(decide ((r.length:Int)=n))=(jX n r)∧True))) (by kernel_rfl) ?_
 intro n0
 simp only[List.length_map] at n0
 refine⟨List.length_map _,⟨0,rfl,Nat.zero_le _,rfl⟩,fun k ⟨hk,ha⟩=>?_⟩
 refine dd (fun c0=>?_) fun c0=>?_
 ·refine⟨by omega,rfl,by omega,fun e11 h11=>?_⟩
  refine⟨iV _ _ _,dm (fun c1=>?_) fun c1=>?_⟩
  ·refine⟨?_,trivial⟩
   ·(rw[jX,eO h11 c1];rfl)
  ·refine⟨⟨by omega,by omega⟩,?_⟩
   exact⟨k+1,rfl,⟨by omega,cL h11 ha c1⟩,by omega⟩
 ·refine⟨List.length_map _,?_,trivial⟩
  ·(rw[jX,dC (by omega) ha];simp)
abbrev aGU (r:List Int)(n:Int):Prop:=cH Tryz.prog 242 [.one (.sl 3 1 (r.map intD)),.one (.int .i64 n)] (vB (jX n r)) []
theorem aTS (r:List Int)(n:Int):aGU r n:=by
 refine aW bH aO Tryz.func242 (by kernel_rfl) (.loop Nat (Q1 Nat) (rg 5 13) [] (fun k=>[(5,vI (k:Int))]) (fun k=>[]) (fun k=>k≤r.length∧(r.take k).all aC1=true) (fun k=>r.length - k) (fun k=> .len r.length<| .br (.elem _ intD r (fun e14=> .call (vB (eI e14 (0:Int) (9:Int))) []<| .br (.fin []) (.back []))) (.len r.length<| .fin []))) (p:=(r.map intD).length≤9223372036854775807→(∃(k:Nat),0=(k:Int)∧k≤r.length∧(r.take k).all aC1=true)∧ ∀(k:Nat),(k≤r.length∧(r.take k).all aC1=true)→Lm intD r∧Br ((k:Int)<(r.length:Int)) (0≤(k:Int)∧Em intD r k fun e14=>eX e14 (0:Int) (9:Int)∧Nr (eI e14 (0:Int) (9:Int)) ((false)=(jX n r)∧True) (bO ((k:Int)+1)∧ ∃(k' :Nat),((k:Int)+1)=(k' :Int)∧(k' ≤r.length∧(r.take k').all aC1=true)∧r.length - k' <r.length - k)) (Lm intD r∧(decide ((r.length:Int)=n))=(jX n r)∧True)) (by kernel_rfl) ?_
 intro n0
 simp only[List.length_map] at n0
 refine⟨⟨0,rfl,Nat.zero_le _,rfl⟩,fun k ⟨hk,ha⟩=>?_⟩
 refine⟨List.length_map _,dd (fun c0=>?_) fun c0=>?_⟩
 ·refine⟨by omega,rfl,by omega,fun e14 h14=>?_⟩
  refine⟨iW _ _ _,dm (fun c1=>?_) fun c1=>?_⟩
  ·refine⟨?_,trivial⟩
   ·(rw[jX,eO h14 c1];rfl)
  ·refine⟨⟨by omega,by omega⟩,?_⟩
   exact⟨k+1,rfl,⟨by omega,cL h14 ha c1⟩,by omega⟩
 ·refine⟨List.length_map _,?_,trivial⟩
  ·(rw[jX,dC (by omega) ha];simp)
abbrev yB (s:ByteArray):Prop:=cH Tryz.prog 191 [.one (.str s)] (vB (gJ s)) []
theorem aJ8 (s:ByteArray):yB s:=by
 refine aW bH aO Tryz.func191 (by kernel_rfl) (.br (.lit<| .lit<| .lit<| .br (.fin []) (.fin [])) (.fin [])) (p:=Br ((s.size:Int)=1) (0≤(0:Int)∧0<(s.size:Int)∧Br (97≤(uT s 0)) (0≤(0:Int)∧0<(s.size:Int)∧(decide ((uT s 0)≤122))=(gJ s)∧True) ((false)=(gJ s)∧True)) ((false)=(gJ s)∧True)) (by kernel_rfl) ?_
 refine dd (fun g6=>?_) fun g6=>?_
 ·refine⟨by omega,by omega,dd (fun g11=>?_) fun g11=>?_⟩
  ·refine⟨by omega,by omega,?_,trivial⟩
   ·(simp[gJ,g6,g11];done)
  ·refine⟨?_,trivial⟩
   ·(simp[gJ,g6,g11];done)
 ·refine⟨?_,trivial⟩
  ·(simp[gJ,g6];done)
abbrev yC (s:ByteArray):Prop:=cH Tryz.prog 182 [.one (.str s)] (vB (gJ s)) []
theorem aJ9 (s:ByteArray):yC s:=by
 refine aW bH aO Tryz.func182 (by kernel_rfl) (.br (.lit<| .lit<| .lit<| .br (.fin []) (.fin [])) (.fin [])) (p:=Br ((s.size:Int)=1) (0≤(0:Int)∧0<(s.size:Int)∧Br (97≤(uT s 0)) (0≤(0:Int)∧0<(s.size:Int)∧(decide ((uT s 0)≤122))=(gJ s)∧True) ((false)=(gJ s)∧True)) ((false)=(gJ s)∧True)) (by kernel_rfl) ?_
 refine dd (fun g6=>?_) fun g6=>?_
 ·refine⟨by omega,by omega,dd (fun g11=>?_) fun g11=>?_⟩
  ·refine⟨by omega,by omega,?_,trivial⟩
   ·(simp[gJ,g6,g11];done)
  ·refine⟨?_,trivial⟩
   ·(simp[gJ,g6,g11];done)
 ·refine⟨?_,trivial⟩
  ·(simp[gJ,g6];done)
abbrev aDW (n:Int):Prop:=cH Tryz.prog 291 [.one (.int .i64 n)] (vB false) []
theorem aPe (n:Int):aDW n:=by
 refine aW bH aO Tryz.func291 (by kernel_rfl) (.fin []) (p:=(!(decide (n=n)))=false∧True) (by kernel_rfl) ?_
 refine⟨?_,trivial⟩
 ·simp
def sZ (a b:Int):Int:=if a<b then -1 else if b<a then 1 else 0
abbrev aJa (a:Int)(b:Int):Prop:=cH Tryz.prog 277 [.one (.int .i64 a),.one (.int .i64 b)] (vI (sZ a b)) []
theorem aWC (a b:Int):aJa a b:=by
 refine aW bH aO Tryz.func277 (by kernel_rfl) (.call (vB false) []<| .call (vB false) []<| .lit<| .lit<| .br (.fin []) (.br (.fin []) (.fin []))) (p:=aDW a∧aDW b∧Br (a<b) ((-1:Int)=(sZ a b)∧True) (Br (b<a) (1=(sZ a b)∧True) (0=(sZ a b)∧True))) (by kernel_rfl) ?_
 refine⟨aPe _,aPe _,dd (fun c3=>?_) fun c3=>?_⟩
 ·refine⟨?_,trivial⟩
  ·simp[sZ, *];try omega
 ·refine dd (fun c4=>?_) fun c4=>?_
  ·refine⟨?_,trivial⟩
   ·simp[sZ, *];try omega
  ·refine⟨?_,trivial⟩
   ·simp[sZ, *];try omega
theorem aJb (a b:Int)(l m:List Int):cF (a::l) (b::m)=if sZ a b=0 then cF l m else sZ a b:=by
 unfold sZ
 rw[cF]
 by_cases h1:a<b
 ·simp[h1]
 ·by_cases h2:b<a
  ·simp[h1,h2]
  ·simp[h1,h2]
abbrev aTT (l:List Int)(m:List Int):Prop:=cH Tryz.prog 262 [.one (.sl 3 1 (l.map intD)),.one (.sl 3 1 (m.map intD))] (vI (cF l m)) []
theorem aYs (l m:List Int):aTT l m:=by
 refine aW bH aO Tryz.func262 (by kernel_rfl) (.len l.length<| .loop Nat (Q1 Nat) ([5,6,7,8]++rg 11 18++[30]) [] (fun k=>[(11,vI (k:Int))]) (fun k=>[]) (fun k=>(k≤l.length∧k≤m.length)∧cF (l.drop k) (m.drop k)=cF l m) (fun k=>l.length - k) (fun k=> .br (.elem _ intD l (fun e14=> .len m.length<| .br (.fin []) (.elem _ intD m (fun e22=> .call (vI (sZ e14 e22)) []<| .br (.fin []) (.back []))))) (.len l.length<| .len m.length<| .br (.fin []) (.fin [])))) (p:=(l.map intD).length≤9223372036854775807→(m.map intD).length≤9223372036854775807→Lm intD l∧((∃(k:Nat),0=(k:Int)∧(k≤l.length∧k≤m.length)∧cF (l.drop k) (m.drop k)=cF l m)∧ ∀(k:Nat),((k≤l.length∧k≤m.length)∧cF (l.drop k) (m.drop k)=cF l m)→Br ((k:Int)<(l.length:Int)) (0≤(k:Int)∧Em intD l k fun e14=>Lm intD m∧Br ((m.length:Int)≤(k:Int)) (1=(cF l m)∧True) (0≤(k:Int)∧Em intD m k fun e22=>aJa e14 e22∧Nb ((sZ e14 e22)=0) ((sZ e14 e22)=(cF l m)∧True) (bO ((k:Int)+1)∧ ∃(k' :Nat),((k:Int)+1)=(k' :Int)∧((k' ≤l.length∧k' ≤m.length)∧cF (l.drop k') (m.drop k')=cF l m)∧l.length - k' <l.length - k))) (Lm intD l∧Lm intD m∧Br ((l.length:Int)<(m.length:Int)) ((-1:Int)=(cF l m)∧True) (0=(cF l m)∧True)))) (by kernel_rfl) ?_
 intro n0 n1
 simp only[List.length_map] at n0 n1
 refine⟨List.length_map _,⟨0,rfl,⟨Nat.zero_le _,Nat.zero_le _⟩,rfl⟩,fun k ⟨hk,hv⟩=>?_⟩
 refine dd (fun c0=>?_) fun c0=>?_
 ·obtain⟨x,hx⟩:=dE (l:=l) (k:=k) (by omega)
  refine⟨by omega,rfl,by omega,fun e14 h14=>?_⟩
  obtain rfl:=(aZ hx h14).symm
  refine⟨List.length_map _,dd (fun c1=>?_) fun c1=>?_⟩
  ·refine⟨?_,trivial⟩
   ·(rw[←hv,jW hk (by omega),if_neg (by omega),if_pos (by omega)];done)
  ·obtain⟨y,hy⟩:=dE (l:=m) (k:=k) (by omega)
   have hd:cF l m=if sZ x y=0 then cF (l.drop (k+1)) (m.drop (k+1)) else sZ x y:=by rw[←hv,lP hx,lP hy,aJb]
   refine⟨by omega,rfl,by omega,fun e22 h22=>?_⟩
   obtain rfl:=(aZ hy h22).symm
   refine⟨aWC _ _,dn (fun c2=>?_) fun c2=>?_⟩
   ·refine⟨?_,trivial⟩
    ·(rw[hd,if_neg c2];done)
   ·refine⟨⟨by omega,by omega⟩,?_⟩
    exact⟨k+1,rfl,⟨by omega,by rw[hd,if_pos c2]⟩,by omega⟩
 ·refine⟨List.length_map _,List.length_map _,dd (fun c3=>?_) fun c3=>?_⟩
  ·refine⟨?_,trivial⟩
   ·(rw[←hv,jW hk (by omega),if_pos (by omega)];done)
  ·refine⟨?_,trivial⟩
   ·(rw[←hv,jW hk (by omega),if_neg (by omega),if_neg (by omega)];done)
abbrev yD (l:List Int)(m:List Int):Prop:=cH Tryz.prog 252 [.one (.sl 3 1 (l.map intD)),.one (.sl 3 1 (m.map intD))] (vI (cF l m)) []
theorem aKz (l m:List Int):yD l m:=by
 refine aW bH aO Tryz.func252 (by kernel_rfl) (.call (vI (cF l m)) []<| .fin []) (p:=(l.map intD).length≤9223372036854775807→(m.map intD).length≤9223372036854775807→aTT l m∧(cF l m)=(cF l m)∧True) (by kernel_rfl) ?_
 intro n0 n1
 simp only[List.length_map] at n0 n1
 refine⟨aYs _ _,?_⟩
 exact⟨rfl,trivial⟩
def lX (l:List (List Int))(i:Nat):Bool:=decide (cF (l.getD i []) (l.getD (i+1) [])<0)
def aDX (l:List (List Int)):Bool:=(List.range (l.length - 1)).all (lX l)
def aX (t:bA):Bool:=t.rows.all (jX t.arity)&&(gJ t.name&&(eI t.arity 1 3&&(decide ((t.rows.length:Int)≤8)&&aDX t.rows)))
theorem jN {p:Nat→Bool}{k:Nat}(h:(List.range k).all p=true)(hk:p k=true):(List.range (k+1)).all p=true:=by
 rw[List.range_succ,List.all_append,h];simp[hk]
theorem iA {p:Nat→Bool}{n k:Nat}(hk:k<n)(h:p k=false):(List.range n).all p=false:=by
 rw[List.all_eq_false];exact⟨k,List.mem_range.2 hk,by simp[h]⟩
theorem bQ {α:Type}{l:List α}{k:Nat}{x y:α}(h:l[k]? =some x):l.getD k y=x:=by simp[List.getD_eq_getElem?_getD,h]
abbrev aGV (l:List (List Int)):Prop:=cH Tryz.prog 238 [.one (.sl 91 1 (l.map aC))] (vB (aDX l)) []
theorem aTU (l:List (List Int)):aGV l:=by
 refine aW bH aO Tryz.func238 (by kernel_rfl) (.loop Nat (Q1 Nat) (rg 3 18) [] (fun k=>[(3,vI ((k:Int)+1))]) (fun k=>[]) (fun k=>(k+1≤l.length∨k=0)∧(List.range k).all (lX l)=true) (fun k=>l.length - k) (fun k=> .len l.length<| .br (.elem _ aC l (fun e13=> .elem _ aC l (fun e17=> .call (vI (cF e13 e17)) []<| .br (.fin []) (.back [])))) (.fin []))) (p:=(l.map aC).length≤9223372036854775807→(∃(k:Nat),1=((k:Int)+1)∧(k+1≤l.length∨k=0)∧(List.range k).all (lX l)=true)∧ ∀(k:Nat),((k+1≤l.length∨k=0)∧(List.range k).all (lX l)=true)→Lm aC l∧Br (((k:Int)+1)<(l.length:Int)) (bO (((k:Int)+1) - 1)∧0≤(((k:Int)+1) - 1)∧Em aC l ((((k:Int)+1) - 1).toNat) fun e13=>0≤((k:Int)+1)∧Em aC l (k+1) fun e17=>yD e13 e17∧Br (0≤(cF e13 e17)) ((false)=(aDX l)∧True) (bO (((k:Int)+1)+1)∧ ∃(k' :Nat),(((k:Int)+1)+1)=(((k' :Nat):Int)+1)∧((k' +1≤l.length∨k' =0)∧(List.range k').all (lX l)=true)∧l.length - k' <l.length - k)) ((true)=(aDX l)∧True)) (by kernel_rfl) ?_
 intro n0
 simp only[List.length_map] at n0
 refine⟨⟨0,rfl,.inr rfl,rfl⟩,fun k ⟨hk,ha⟩=>?_⟩
 refine⟨List.length_map _,dd (fun c0=>?_) fun c0=>?_⟩
 ·refine⟨⟨by omega,by omega⟩,by omega,rfl,by omega,fun e13 h13=>?_⟩
  have i13:l[k]? =some e13:=by rw[←h13];congr 1;omega
  refine⟨by omega,rfl,by omega,fun e17 h17=>?_⟩
  refine⟨aKz _ _,dd (fun c1=>?_) fun c1=>?_⟩
  ·have hp:lX l k=false:=by rw[lX,bQ i13,bQ h17];simp;omega
   refine⟨?_,trivial⟩
   ·(rw[aDX,iA (by omega) hp];done)
  ·have hp:lX l k=true:=by rw[lX,bQ i13,bQ h17];simp;omega
   refine⟨⟨by omega,by omega⟩,?_⟩
   exact⟨k+1,rfl,⟨by omega,jN ha hp⟩,by omega⟩
 ·refine⟨?_,trivial⟩
  ·(rw[aDX,show l.length - 1=k by omega,ha];done)
abbrev rG (t:bA):Prop:=cH Tryz.prog 194 [.agg [.str t.name,.int .i64 t.arity,.sl 91 1 (t.rows.map aC)]] (vB (aX t)) []
theorem yE (t:bA):rG t:=by
 refine aW bH aO Tryz.func194 (by kernel_rfl) (.len t.rows.length<| .loop Nat (Q1 Nat) ([4]++rg 8 10) [] (fun k=>[(8,vI (k:Int))]) (fun k=>[]) (fun k=>k≤t.rows.length∧(t.rows.take k).all (jX t.arity)=true) (fun k=>t.rows.length - k) (fun k=> .br (.elem _ aC t.rows (fun e10=> .call (vB (jX t.arity e10)) []<| .br (.fin []) (.back []))) (.call (vB (gJ t.name)) []<| .br (.call (vB (eI t.arity (1:Int) (3:Int))) []<| .lit<| .br (.len t.rows.length<| .lit<| .lit<| .br (.call (vB (aDX t.rows)) []<| .fin []) (.fin [])) (.fin [])) (.fin [])))) (p:=(t.rows.map aC).length≤9223372036854775807→Lm aC t.rows∧((∃(k:Nat),0=(k:Int)∧k≤t.rows.length∧(t.rows.take k).all (jX t.arity)=true)∧ ∀(k:Nat),(k≤t.rows.length∧(t.rows.take k).all (jX t.arity)=true)→Br ((k:Int)<(t.rows.length:Int)) (0≤(k:Int)∧Em aC t.rows k fun e10=>aGT e10 t.arity∧Nr (jX t.arity e10) ((false)=(aX t)∧True) (bO ((k:Int)+1)∧ ∃(k' :Nat),((k:Int)+1)=(k' :Int)∧(k' ≤t.rows.length∧(t.rows.take k').all (jX t.arity)=true)∧t.rows.length - k' <t.rows.length - k)) (yB t.name∧Bb (gJ t.name) (eW t.arity (1:Int) (3:Int)∧Bb (eI t.arity (1:Int) (3:Int)) (Lm aC t.rows∧Br ((t.rows.length:Int)≤8) (aGV t.rows∧(aDX t.rows)=(aX t)∧True) ((false)=(aX t)∧True)) ((false)=(aX t)∧True)) ((false)=(aX t)∧True)))) (by kernel_rfl) ?_
 intro n0
 simp only[List.length_map] at n0
 refine⟨List.length_map _,⟨0,rfl,Nat.zero_le _,rfl⟩,fun k ⟨hk,ha⟩=>?_⟩
 refine dd (fun c0=>?_) fun c0=>?_
 ·refine⟨by omega,rfl,by omega,fun e10 h10=>?_⟩
  refine⟨aTR _ _,dm (fun c1=>?_) fun c1=>?_⟩
  ·refine⟨?_,trivial⟩
   ·(rw[aX,eO h10 c1];rfl)
  ·refine⟨⟨by omega,by omega⟩,?_⟩
   exact⟨k+1,rfl,⟨by omega,cL h10 ha c1⟩,by omega⟩
 ·have hall:=dC (by omega) ha
  refine⟨aJ8 _,db (fun g21=>?_) fun g21=>?_⟩
  ·refine⟨iV _ _ _,db (fun g26=>?_) fun g26=>?_⟩
   ·refine⟨List.length_map _,dd (fun g32=>?_) fun g32=>?_⟩
    ·refine⟨aTU _,?_,trivial⟩
     ·(simp[aX,hall, *];done)
    ·refine⟨?_,trivial⟩
     ·(simp[aX,hall, *];done)
   ·refine⟨?_,trivial⟩
    ·(simp[aX,hall, *];done)
  ·refine⟨?_,trivial⟩
   ·(simp[aX,hall, *];done)
abbrev oI (t:bA):Prop:=cH Tryz.prog 218 [.agg [.str t.name,.int .i64 t.arity,.sl 91 1 (t.rows.map aC)]] (vB (aX t)) []
theorem yF (t:bA):oI t:=by
 refine aW bH aO Tryz.func218 (by kernel_rfl) (.call (vB (gJ t.name)) []<| .br (.fin []) (.call (vB (eI t.arity (1:Int) (3:Int))) []<| .lit<| .lit<| .br (.fin []) (.len t.rows.length<| .lit<| .lit<| .br (.fin []) (.loop Nat (Q1 Nat) ([3]++rg 20 35) [] (fun k=>[(3,vI (k:Int))]) (fun k=>[]) (fun k=>k≤t.rows.length∧(t.rows.take k).all (jX t.arity)=true∧(List.range (k - 1)).all (lX t.rows)=true) (fun k=>t.rows.length - k) (fun k=> .len t.rows.length<| .br (.elem _ aC t.rows (fun e30=> .call (vB (jX t.arity e30)) []<| .br (.fin []) (.lit<| .lit<| .br (.elem _ aC t.rows (fun e44=> .elem _ aC t.rows (fun e49=> .call (vI (cF e44 e49)) []<| .lit<| .lit<| .lit<| .lit<| .br (.fin []) (.back [])))) (.back [])))) (.fin [])))))) (p:=(t.rows.map aC).length≤9223372036854775807→yC t.name∧Nr (gJ t.name) ((false)=(aX t)∧True) (eX t.arity (1:Int) (3:Int)∧Nr (eI t.arity (1:Int) (3:Int)) ((false)=(aX t)∧True) (Lm aC t.rows∧Br (8<(t.rows.length:Int)) ((false)=(aX t)∧True) ((∃(k:Nat),0=(k:Int)∧k≤t.rows.length∧(t.rows.take k).all (jX t.arity)=true∧(List.range (k - 1)).all (lX t.rows)=true)∧ ∀(k:Nat),(k≤t.rows.length∧(t.rows.take k).all (jX t.arity)=true∧(List.range (k - 1)).all (lX t.rows)=true)→Lm aC t.rows∧Br ((k:Int)<(t.rows.length:Int)) (0≤(k:Int)∧Em aC t.rows k fun e30=>aGU e30 t.arity∧Nr (jX t.arity e30) ((false)=(aX t)∧True) (Br (0<(k:Int)) (bO ((k:Int) - 1)∧0≤((k:Int) - 1)∧Em aC t.rows (((k:Int) - 1).toNat) fun e44=>0≤(k:Int)∧Em aC t.rows k fun e49=>fR e44 e49∧Br (0≤(cF e44 e49)) ((false)=(aX t)∧True) (bO ((k:Int)+1)∧ ∃(k' :Nat),((k:Int)+1)=(k' :Int)∧(k' ≤t.rows.length∧(t.rows.take k').all (jX t.arity)=true∧(List.range (k' - 1)).all (lX t.rows)=true)∧t.rows.length - k' <t.rows.length - k)) (bO ((k:Int)+1)∧ ∃(k' :Nat),((k:Int)+1)=(k' :Int)∧(k' ≤t.rows.length∧(t.rows.take k').all (jX t.arity)=true∧(List.range (k' - 1)).all (lX t.rows)=true)∧t.rows.length - k' <t.rows.length - k))) ((true)=(aX t)∧True))))) (by kernel_rfl) ?_
 intro n0
 simp only[List.length_map] at n0
 refine⟨aJ9 _,dm (fun g8=>?_) fun g8=>?_⟩
 ·refine⟨?_,trivial⟩
  ·(simp[aX, *];done)
 ·refine⟨iW _ _ _,dm (fun g14=>?_) fun g14=>?_⟩
  ·refine⟨?_,trivial⟩
   ·(simp[aX, *];done)
  ·refine⟨List.length_map _,dd (fun c0=>?_) fun c0=>?_⟩
   ·have h8:decide ((t.rows.length:Int)≤8)=false:=by simp;omega
    refine⟨?_,trivial⟩
    ·(rw[aX,h8];simp[*];done)
   ·have h8:decide ((t.rows.length:Int)≤8)=true:=by simp;omega
    refine⟨⟨0,rfl,Nat.zero_le _,rfl,rfl⟩,fun k ⟨hk,ha,hs⟩=>?_⟩
    refine⟨List.length_map _,dd (fun c1=>?_) fun c1=>?_⟩
    ·refine⟨by omega,rfl,by omega,fun e30 h30=>?_⟩
     refine⟨aTS _ _,dm (fun g36=>?_) fun g36=>?_⟩
     ·refine⟨?_,trivial⟩
      ·(rw[aX,eO h30 g36];rfl)
     ·refine dd (fun g39=>?_) fun g39=>?_
      ·refine⟨⟨by omega,by omega⟩,by omega,rfl,by omega,fun e44 h44=>?_⟩
       have i44:t.rows[k - 1]? =some e44:=by rw[←h44];congr 1;omega
       refine⟨by omega,rfl,by omega,fun e49 h49=>?_⟩
       refine⟨jF _ _,dd (fun c2=>?_) fun c2=>?_⟩
       ·have hp:lX t.rows (k - 1)=false:=by rw[lX,bQ i44,show k - 1+1=k by omega,bQ h49];simp;omega
        have hz:aDX t.rows=false:=iA (by omega) hp
        refine⟨?_,trivial⟩
        ·(rw[aX,h8,hz];simp[*];done)
       ·have hp:lX t.rows (k - 1)=true:=by rw[lX,bQ i44,show k - 1+1=k by omega,bQ h49];simp;omega
        have hs2:(List.range (k+1 - 1)).all (lX t.rows)=true:=by rw[show k+1 - 1=(k - 1)+1 by omega];exact jN hs hp
        refine⟨⟨by omega,by omega⟩,?_⟩
        exact⟨k+1,rfl,⟨by omega,cL h30 ha g36,hs2⟩,by omega⟩
      ·have hs2:(List.range (k+1 - 1)).all (lX t.rows)=true:=by rw[show k=0 by omega];rfl
       refine⟨⟨by omega,by omega⟩,?_⟩
       exact⟨k+1,rfl,⟨by omega,cL h30 ha g36,hs2⟩,by omega⟩
    ·have hall:=dC (by omega) ha
     have hz:aDX t.rows=true:=by rw[aDX,show t.rows.length - 1=k - 1 by omega,hs]
     refine⟨?_,trivial⟩
     ·(rw[aX,h8,hz];simp[*];done)
def aMY (n:Int)(cols:List Int):Bool:=cols.all fun c=>eI c 0 (n - 1)
def sK (r:List Int)(c:Int):Int:=r.getD c.toNat 0
def fH (r cols:List Int):List Int × Bool:=if aMY r.length cols=true then (cols.map (sK r),true) else ([],false)
theorem aC2 {r cols:List Int}(h:cols.all (fun c=>eI c 0 ((r.length:Int) - 1))=true):fH r cols=(cols.map (sK r),true):=by rw[fH,if_pos (show aMY _ _=true from h)]
theorem aPf {r cols:List Int}(h:cols.all (fun c=>eI c 0 ((r.length:Int) - 1))=false):fH r cols=([],false):=by rw[fH,if_neg (by rw[show aMY _ _=false from h];decide)]
theorem aMZ {r:List Int}{c x:Int}(h:r[c.toNat]? =some x):sK r c=x:=bQ h
theorem aGW (r cols:List Int):(fH r cols).1.length≤cols.length:=by
 unfold fH
 split<;>simp
def iS (b:Int)(cols:List Int)(i:Nat):Bool:=eI (cols.getD i 0) 0 b&&(decide (i=0) || decide (cols.getD (i - 1) 0<cols.getD i 0))
def dW (b:Int)(cols:List Int):Bool:=(List.range cols.length).all (iS b cols)
abbrev oJ (r:List Int)(cols:List Int):AV × List (Nat × Rs):=(.tup [.own 0,vB ((fH r cols).2)],[(0,.arr 3 1 true ((fH r cols).1.map intD))])
abbrev rH (r:List Int)(cols:List Int):Prop:=cH Tryz.prog 207 [.one (.sl 3 1 (r.map intD)),.one (.sl 3 1 (cols.map intD))] (oJ r cols).1 (oJ r cols).2
theorem aC3 (r cols:List Int)(hl:cols.length≤1048576):rH r cols:=by
 refine aW bH aO Tryz.func207 (by kernel_rfl) (.len cols.length<| .loop (Nat × (List Int)) (Q2 Nat (List Int)) ([6,8,9]++rg 12 18) [900,2700,2800] (fun yy0=>[(12,vI (yy0.1:Int)),(6,.own 900)]) (fun yy0=>[(900,some (.arr 3 1 true (yy0.2.map intD)))]) (fun yy0=>yy0.1≤cols.length∧yy0.2=(cols.take yy0.1).map (sK r)∧(cols.take yy0.1).all (fun c=>eI c 0 ((r.length:Int) - 1))=true) (fun yy0=>cols.length - yy0.1) (fun yy0=> .br (.elem _ intD cols (fun e14=> .len r.length<| .call (vB (eI e14 (0:Int) ((r.length:Int) - 1))) []<| .br (.fin []) (.elem _ intD r (fun e25=> .app Int intD yy0.2 ([e25]:List Int)<| .back [(900,2800)])))) (.fin [(0,900)]))) (p:=(r.map intD).length≤9223372036854775807→(cols.map intD).length≤9223372036854775807→Lm intD cols∧((∃(k:Nat) (out:List Int),0=(k:Int)∧[]=out.map intD∧k≤cols.length∧out=(cols.take k).map (sK r)∧(cols.take k).all (fun c=>eI c 0 ((r.length:Int) - 1))=true)∧ ∀(k:Nat) (out:List Int),(k≤cols.length∧out=(cols.take k).map (sK r)∧(cols.take k).all (fun c=>eI c 0 ((r.length:Int) - 1))=true)→Br ((k:Int)<(cols.length:Int)) (0≤(k:Int)∧Em intD cols k fun e14=>Lm intD r∧bO ((r.length:Int) - 1)∧eW e14 (0:Int) ((r.length:Int) - 1)∧Nr (eI e14 (0:Int) ((r.length:Int) - 1)) ((false)=((fH r cols).2)∧[]=(fH r cols).1.map intD∧True) (0≤e14∧Em intD r ((e14).toNat) fun e25=>out.map intD=out.map intD∧[[.int .i64 e25]]=([e25]:List Int).map intD∧(∀x,bW (intD x)=true)∧(out.length+([e25]:List Int).length)*8≤140737488355328∧bO ((k:Int)+1)∧ ∃(k' :Nat) (out' :List Int),((k:Int)+1)=(k' :Int)∧(out++[e25]).map intD=out'.map intD∧(k' ≤cols.length∧out' =(cols.take k').map (sK r)∧(cols.take k').all (fun c=>eI c 0 ((r.length:Int) - 1))=true)∧cols.length - k' <cols.length - k)) ((true)=((fH r cols).2)∧out.map intD=(fH r cols).1.map intD∧True))) (by kernel_rfl) ?_
 intro n0 n1
 simp only[List.length_map] at n0 n1
 refine⟨List.length_map _,⟨0,([]:List Int),rfl,rfl,Nat.zero_le _,rfl,rfl⟩,fun k out ⟨hk,ho,ha⟩=>?_⟩
 refine dd (fun c0=>?_) fun c0=>?_
 ·refine⟨by omega,rfl,by omega,fun e14 h14=>?_⟩
  refine⟨List.length_map _,⟨by omega,by omega⟩,iV _ _ _,dm (fun c1=>?_) fun c1=>?_⟩
  ·refine⟨?_,?_,trivial⟩<;>((rw[aPf (eO h14 c1)]<;>rfl))
  ·have hb:=eG c1
   refine⟨by omega,rfl,by omega,fun e25 h25=>?_⟩
   refine⟨rfl,rfl,fun _=>rfl,by simp[ho];omega,?_⟩
   refine⟨⟨by omega,by omega⟩,?_⟩
   exact⟨k+1,_,rfl,rfl,⟨by omega,by rw[ho,bU h14,List.map_append,List.map_cons,List.map_nil,aMZ h25],cL h14 ha c1⟩,by omega⟩
 ·refine⟨?_,?_,trivial⟩<;>(first|(rw[aC2 (dC (by omega) ha),ho,List.take_of_length_le (by omega)]<;>rfl)|(rw[aC2 (dC (by omega) ha)]<;>rfl))
abbrev oK (r:List Int)(cols:List Int):AV × List (Nat × Rs):=(.tup [.own 0,vB ((fH r cols).2)],[(0,.arr 3 1 true ((fH r cols).1.map intD))])
abbrev rI (r:List Int)(cols:List Int):Prop:=cH Tryz.prog 244 [.one (.sl 3 1 (r.map intD)),.one (.sl 3 1 (cols.map intD))] (oK r cols).1 (oK r cols).2
theorem aC4 (r cols:List Int)(hl:cols.length≤1048576):rI r cols:=by
 refine aW bH aO Tryz.func244 (by kernel_rfl) (.loop (Nat × (List Int)) (Q2 Nat (List Int)) (rg 6 18++rg 25 10) [800,3300,3400] (fun yy0=>[(7,vI (yy0.1:Int)),(6,.own 800)]) (fun yy0=>[(800,some (.arr 3 1 true (yy0.2.map intD)))]) (fun yy0=>yy0.1≤cols.length∧yy0.2=(cols.take yy0.1).map (sK r)∧(cols.take yy0.1).all (fun c=>eI c 0 ((r.length:Int) - 1))=true) (fun yy0=>cols.length - yy0.1) (fun yy0=> .len cols.length<| .br (.elem _ intD cols (fun e17=> .len r.length<| .call (vB (eI e17 (0:Int) ((r.length:Int) - 1))) []<| .br (.fin [(0,2400)]) (.elem _ intD cols (fun e29=> .elem _ intD r (fun e31=> .app Int intD yy0.2 ([e31]:List Int)<| .back [(800,3400)]))))) (.fin [(0,800)]))) (p:=(r.map intD).length≤9223372036854775807→(cols.map intD).length≤9223372036854775807→(∃(k:Nat) (out:List Int),0=(k:Int)∧[]=out.map intD∧k≤cols.length∧out=(cols.take k).map (sK r)∧(cols.take k).all (fun c=>eI c 0 ((r.length:Int) - 1))=true)∧ ∀(k:Nat) (out:List Int),(k≤cols.length∧out=(cols.take k).map (sK r)∧(cols.take k).all (fun c=>eI c 0 ((r.length:Int) - 1))=true)→Lm intD cols∧Br ((k:Int)<(cols.length:Int)) (0≤(k:Int)∧Em intD cols k fun e17=>Lm intD r∧bO ((r.length:Int) - 1)∧eX e17 (0:Int) ((r.length:Int) - 1)∧Nr (eI e17 (0:Int) ((r.length:Int) - 1)) ((false)=((fH r cols).2)∧[]=(fH r cols).1.map intD∧True) (0≤(k:Int)∧Em intD cols k fun e29=>0≤e29∧Em intD r ((e29).toNat) fun e31=>out.map intD=out.map intD∧[[.int .i64 e31]]=([e31]:List Int).map intD∧(∀x,bW (intD x)=true)∧(out.length+([e31]:List Int).length)*8≤140737488355328∧bO ((k:Int)+1)∧ ∃(k' :Nat) (out' :List Int),((k:Int)+1)=(k' :Int)∧(out++[e31]).map intD=out'.map intD∧(k' ≤cols.length∧out' =(cols.take k').map (sK r)∧(cols.take k').all (fun c=>eI c 0 ((r.length:Int) - 1))=true)∧cols.length - k' <cols.length - k)) ((true)=((fH r cols).2)∧out.map intD=(fH r cols).1.map intD∧True)) (by kernel_rfl) ?_
 intro n0 n1
 simp only[List.length_map] at n0 n1
 refine⟨⟨0,([]:List Int),rfl,rfl,Nat.zero_le _,rfl,rfl⟩,fun k out ⟨hk,ho,ha⟩=>?_⟩
 refine⟨List.length_map _,dd (fun c0=>?_) fun c0=>?_⟩
 ·refine⟨by omega,rfl,by omega,fun e17 h17=>?_⟩
  refine⟨List.length_map _,⟨by omega,by omega⟩,iW _ _ _,dm (fun c1=>?_) fun c1=>?_⟩
  ·refine⟨?_,?_,trivial⟩<;>((rw[aPf (eO h17 c1)]<;>rfl))
  ·have hb:=eG c1
   refine⟨by omega,rfl,by omega,fun e29 h29=>?_⟩
   obtain rfl:=(aZ h17 h29).symm
   refine⟨by omega,rfl,by omega,fun e31 h31=>?_⟩
   refine⟨rfl,rfl,fun _=>rfl,by simp[ho];omega,?_⟩
   refine⟨⟨by omega,by omega⟩,?_⟩
   exact⟨k+1,_,rfl,rfl,⟨by omega,by rw[ho,bU h17,List.map_append,List.map_cons,List.map_nil,aMZ h31],cL h17 ha c1⟩,by omega⟩
 ·refine⟨?_,?_,trivial⟩<;>(first|(rw[aC2 (dC (by omega) ha),ho,List.take_of_length_le (by omega)]<;>rfl)|(rw[aC2 (dC (by omega) ha)]<;>rfl))
abbrev yG (cols:List Int)(a:Int):Prop:=cH Tryz.prog 246 [.one (.sl 3 1 (cols.map intD)),.one (.int .i64 a)] (vB (dW (a - 1) cols)) []
theorem aJc (cols:List Int)(a:Int)(ha:1≤a∧a≤3):yG cols a:=by
 refine aW bH aO Tryz.func246 (by kernel_rfl) (.len cols.length<| .loop Nat (Q1 Nat) ([5,6]++rg 9 24) [] (fun k=>[(9,vI (k:Int))]) (fun k=>[]) (fun k=>k≤cols.length∧(List.range k).all (iS (a - 1) cols)=true) (fun k=>cols.length - k) (fun k=> .br (.elem _ intD cols (fun e12=> .call (vB (eI e12 (0:Int) (a - 1))) []<| .br (.fin []) (.lit<| .lit<| .br (.elem _ intD cols (fun e26=> .lit<| .lit<| .lit<| .lit<| .lit<| .lit<| .br (.fin []) (.back []))) (.back [])))) (.fin []))) (p:=(cols.map intD).length≤9223372036854775807→Lm intD cols∧((∃(k:Nat),0=(k:Int)∧k≤cols.length∧(List.range k).all (iS (a - 1) cols)=true)∧ ∀(k:Nat),(k≤cols.length∧(List.range k).all (iS (a - 1) cols)=true)→Br ((k:Int)<(cols.length:Int)) (0≤(k:Int)∧Em intD cols k fun e12=>bO (a - 1)∧eW e12 (0:Int) (a - 1)∧Nr (eI e12 (0:Int) (a - 1)) ((false)=(dW (a - 1) cols)∧True) (Br (0<(k:Int)) (bO ((k:Int) - 1)∧0≤((k:Int) - 1)∧Em intD cols (((k:Int) - 1).toNat) fun e26=>Br (e12≤e26) ((false)=(dW (a - 1) cols)∧True) (bO ((k:Int)+1)∧ ∃(k' :Nat),((k:Int)+1)=(k' :Int)∧(k' ≤cols.length∧(List.range k').all (iS (a - 1) cols)=true)∧cols.length - k' <cols.length - k)) (bO ((k:Int)+1)∧ ∃(k' :Nat),((k:Int)+1)=(k' :Int)∧(k' ≤cols.length∧(List.range k').all (iS (a - 1) cols)=true)∧cols.length - k' <cols.length - k))) ((true)=(dW (a - 1) cols)∧True))) (by kernel_rfl) ?_
 intro n0
 simp only[List.length_map] at n0
 refine⟨List.length_map _,⟨0,rfl,Nat.zero_le _,rfl⟩,fun k ⟨hk,hv⟩=>?_⟩
 refine dd (fun c0=>?_) fun c0=>?_
 ·refine⟨by omega,rfl,by omega,fun e12 h12=>?_⟩
  refine⟨⟨by omega,by omega⟩,iV _ _ _,dm (fun g19=>?_) fun g19=>?_⟩
  ·have hp:iS (a - 1) cols k=false:=by rw[iS,bQ h12,g19];rfl
   refine⟨?_,trivial⟩
   ·(rw[dW,iA (by omega) hp];done)
  ·refine dd (fun g22=>?_) fun g22=>?_
   ·refine⟨⟨by omega,by omega⟩,by omega,rfl,by omega,fun e26 h26=>?_⟩
    have i26:cols[k - 1]? =some e26:=by rw[←h26];congr 1;omega
    refine dd (fun c1=>?_) fun c1=>?_
    ·have hp:iS (a - 1) cols k=false:=by rw[iS,bQ h12,bQ i26,show decide (e26<e12)=false by simp;omega,show decide (k=0)=false by simp;omega];simp
     refine⟨?_,trivial⟩
     ·(rw[dW,iA (by omega) hp];done)
    ·have hp:iS (a - 1) cols k=true:=by rw[iS,bQ h12,g19,bQ i26,show decide (e26<e12)=true by simp;omega];simp
     refine⟨⟨by omega,by omega⟩,?_⟩
     exact⟨k+1,rfl,⟨by omega,jN hv hp⟩,by omega⟩
   ·have hp:iS (a - 1) cols k=true:=by rw[iS,bQ h12,g19,show decide (k=0)=true by simp;omega];rfl
    refine⟨⟨by omega,by omega⟩,?_⟩
    exact⟨k+1,rfl,⟨by omega,jN hv hp⟩,by omega⟩
 ·refine⟨?_,trivial⟩
  ·(rw[dW,show cols.length=k by omega,hv];done)
theorem cE {t:bA}(h:aX t=true):1≤t.arity∧t.arity≤3∧t.rows.length≤8:=by
 simp only[aX,Bool.and_eq_true,decide_eq_true_eq] at h
 have:=eG h.2.2.1
 omega
theorem aGX {t:bA}(h:aX t=true):IntKind.i64.wrap (t.arity - 1)=t.arity - 1:=by
 have:=cE h
 exact IntWalk.i64_in _ ⟨by omega,by omega⟩
theorem aTV {t:bA}{cols:List Int}(h:dW (IntKind.i64.wrap (t.arity - 1)) cols=false):(aX t&&dW (t.arity - 1) cols)=false:=by
 cases e:aX t with
 | false=>rfl
 | true=>rw[aGX e] at h;rw[h];rfl
theorem aWD {t:bA}{cols:List Int}(h:dW (IntKind.i64.wrap (t.arity - 1)) cols=true):(aX t&&dW (t.arity - 1) cols)=aX t:=by
 cases e:aX t with
 | false=>rfl
 | true=>rw[aGX e] at h;rw[h];rfl
abbrev yH (t:bA)(cols:List Int):Prop:=cH Tryz.prog 243 [.agg [.str t.name,.int .i64 t.arity,.sl 91 1 (t.rows.map aC)],.one (.sl 3 1 (cols.map intD))] (vB (aX t&&dW (t.arity - 1) cols)) []
theorem aJd (t:bA)(cols:List Int):yH t cols:=by
 refine aW bH aO Tryz.func243 (by kernel_rfl) (.loop Nat (Q1 Nat) (rg 5 32) [] (fun k=>[(5,vI (k:Int))]) (fun k=>[]) (fun k=>k≤cols.length∧(List.range k).all (iS (IntKind.i64.wrap (t.arity - 1)) cols)=true) (fun k=>cols.length - k) (fun k=> .len cols.length<| .br (.elem _ intD cols (fun e14=> .raw<| .call (vB (eI e14 (0:Int) (IntKind.i64.wrap (t.arity - 1)))) []<| .br (.fin []) (.lit<| .lit<| .br (.elem _ intD cols (fun e28=> .elem _ intD cols (fun e32=> .lit<| .lit<| .lit<| .lit<| .lit<| .br (.fin []) (.back [])))) (.back [])))) (.call (vB (aX t)) []<| .fin []))) (p:=(t.rows.map aC).length≤9223372036854775807→(cols.map intD).length≤9223372036854775807→(∃(k:Nat),0=(k:Int)∧k≤cols.length∧(List.range k).all (iS (IntKind.i64.wrap (t.arity - 1)) cols)=true)∧ ∀(k:Nat),(k≤cols.length∧(List.range k).all (iS (IntKind.i64.wrap (t.arity - 1)) cols)=true)→Lm intD cols∧Br ((k:Int)<(cols.length:Int)) (0≤(k:Int)∧Em intD cols k fun e14=>eX e14 (0:Int) (IntKind.i64.wrap (t.arity - 1))∧Nr (eI e14 (0:Int) (IntKind.i64.wrap (t.arity - 1))) ((false)=(aX t&&dW (t.arity - 1) cols)∧True) (Br (0<(k:Int)) (bO ((k:Int) - 1)∧0≤((k:Int) - 1)∧Em intD cols (((k:Int) - 1).toNat) fun e28=>0≤(k:Int)∧Em intD cols k fun e32=>Br (e32≤e28) ((false)=(aX t&&dW (t.arity - 1) cols)∧True) (bO ((k:Int)+1)∧ ∃(k' :Nat),((k:Int)+1)=(k' :Int)∧(k' ≤cols.length∧(List.range k').all (iS (IntKind.i64.wrap (t.arity - 1)) cols)=true)∧cols.length - k' <cols.length - k)) (bO ((k:Int)+1)∧ ∃(k' :Nat),((k:Int)+1)=(k' :Int)∧(k' ≤cols.length∧(List.range k').all (iS (IntKind.i64.wrap (t.arity - 1)) cols)=true)∧cols.length - k' <cols.length - k))) (oI t∧(aX t)=(aX t&&dW (t.arity - 1) cols)∧True)) (by kernel_rfl) ?_
 intro n0 n1
 simp only[List.length_map] at n0 n1
 refine⟨⟨0,rfl,Nat.zero_le _,rfl⟩,fun k ⟨hk,hv⟩=>?_⟩
 refine⟨List.length_map _,dd (fun c0=>?_) fun c0=>?_⟩
 ·refine⟨by omega,rfl,by omega,fun e14 h14=>?_⟩
  refine⟨iW _ _ _,dm (fun g21=>?_) fun g21=>?_⟩
  ·have hp:iS (IntKind.i64.wrap (t.arity - 1)) cols k=false:=by rw[iS,bQ h14,g21];rfl
   refine⟨?_,trivial⟩
   ·(rw[aTV (by rw[dW,iA (by omega) hp])];done)
  ·refine dd (fun g24=>?_) fun g24=>?_
   ·refine⟨⟨by omega,by omega⟩,by omega,rfl,by omega,fun e28 h28=>?_⟩
    have i28:cols[k - 1]? =some e28:=by rw[←h28];congr 1;omega
    refine⟨by omega,rfl,by omega,fun e32 h32=>?_⟩
    obtain rfl:=(aZ h14 h32).symm
    refine dd (fun c1=>?_) fun c1=>?_
    ·have hp:iS (IntKind.i64.wrap (t.arity - 1)) cols k=false:=by rw[iS,bQ h14,bQ i28,show decide (e28<e14)=false by simp;omega,show decide (k=0)=false by simp;omega];simp
     refine⟨?_,trivial⟩
     ·(rw[aTV (by rw[dW,iA (by omega) hp])];done)
    ·have hp:iS (IntKind.i64.wrap (t.arity - 1)) cols k=true:=by rw[iS,bQ h14,g21,bQ i28,show decide (e28<e14)=true by simp;omega];simp
     refine⟨⟨by omega,by omega⟩,?_⟩
     exact⟨k+1,rfl,⟨by omega,jN hv hp⟩,by omega⟩
   ·have hp:iS (IntKind.i64.wrap (t.arity - 1)) cols k=true:=by rw[iS,bQ h14,g21,show decide (k=0)=true by simp;omega];rfl
    refine⟨⟨by omega,by omega⟩,?_⟩
    exact⟨k+1,rfl,⟨by omega,jN hv hp⟩,by omega⟩
 ·refine⟨yF t,?_,trivial⟩
  ·(rw[aWD (by rw[dW,show cols.length=k by omega,hv])];done)
abbrev aDy (l:List Int):AV × List (Nat × Rs):=(.own 0,[(0,.arr 3 1 true (l.map intD))])
abbrev aGY (l:List Int):Prop:=cH Tryz.prog 164 [.one (.sl 3 1 (l.map intD))] (aDy l).1 (aDy l).2
theorem cpI (l:List Int)(hl:l.length≤1048576):aGY l:=by
 refine aW bH aO Tryz.func164 (by kernel_rfl) (.app Int intD ([]:List Int) l<| .fin [(0,500)]) (p:=(l.map intD).length≤9223372036854775807→[]=([]:List Int).map intD∧l.map intD=l.map intD∧(∀x,bW (intD x)=true)∧(([]:List Int).length+l.length)*8≤140737488355328∧(([]:List Int)++l).map intD=l.map intD∧True) (by kernel_rfl) ?_
 intro n0
 simp only[List.length_map] at n0
 refine⟨rfl,rfl,fun _=>rfl,by simp;omega,?_⟩
 refine⟨?_,trivial⟩
 ·simp
abbrev aJe (l:List (List Int)):AV × List (Nat × Rs):=(.own 0,[(0,.arr 91 1 true (l.map aC))])
abbrev aM0 (l:List (List Int)):Prop:=cH Tryz.prog 195 [.one (.sl 91 1 (l.map aC))] (aJe l).1 (aJe l).2
theorem cpR (l:List (List Int))(hc:cT l≤1048576):aM0 l:=by
 refine aW bH aO Tryz.func195 (by kernel_rfl) (.len l.length<| .loop (Nat × (List (List Int))) (Q2 Nat (List (List Int))) ([3,5,6]++rg 9 10) [600,1500,1600,1700] (fun yy0=>[(3,.own 600),(9,vI (yy0.1:Int))]) (fun yy0=>[(600,some (.arr 91 1 true (yy0.2.map aC)))]) (fun yy0=>yy0.1≤l.length∧yy0.2=l.take yy0.1) (fun yy0=>l.length - yy0.1) (fun yy0=> .br (.elem _ aC l (fun e11=>bL (aDy e11)<| .appx (List Int) aC yy0.2 e11<| .back [(600,1700)])) (.fin [(0,600)]))) (p:=(l.map aC).length≤9223372036854775807→Lm aC l∧((∃(k:Nat) (out:List (List Int)),0=(k:Int)∧[]=out.map aC∧k≤l.length∧out=l.take k)∧ ∀(k:Nat) (out:List (List Int)),(k≤l.length∧out=l.take k)→Br ((k:Int)<(l.length:Int)) (0≤(k:Int)∧Em aC l k fun e11=>aGY e11∧out.map aC=out.map aC∧e11.map intD=e11.map intD∧(out.length+1)*24≤140737488355328∧bO ((k:Int)+1)∧ ∃(k' :Nat) (out' :List (List Int)),((k:Int)+1)=(k' :Int)∧(out++[e11]).map aC=out'.map aC∧(k' ≤l.length∧out' =l.take k')∧l.length - k' <l.length - k) (out.map aC=l.map aC∧True))) (by kernel_rfl) ?_
 intro n0
 simp only[List.length_map] at n0
 have hlen:=fJ l
 refine⟨List.length_map _,⟨0,([]:List (List Int)),rfl,rfl,Nat.zero_le _,rfl⟩,fun k out ⟨hk,ho⟩=>?_⟩
 refine dd (fun c0=>?_) fun c0=>?_
 ·refine⟨by omega,rfl,by omega,fun e11 h11=>?_⟩
  have h5:e11.length≤1048576:=by have:=aAW h11;have:cG e11=e11.length:=rfl;omega
  refine⟨cpI _ (by omega),rfl,rfl,by simp[ho];have:=fJ l;omega,⟨by omega,by omega⟩,?_⟩
  exact⟨k+1,out++[e11],rfl,rfl,⟨by omega,by rw[ho,bU h11]⟩,by omega⟩
 ·refine⟨?_,trivial⟩
  ·rw[ho,List.take_of_length_le (by omega)]
end Go.Proofs.YtlidmoeecphbmaaGreat
namespace Go.Proofs.YtlidmoeecphbmaaGreat
open Go.ChangeShapes Go.WideShapes Go.ChangeAt Go.RowKit
set_option linter.unusedVariables false
set_option linter.unusedSimpArgs false
theorem aWE (x:Int)(w:World):Calls Tryz.prog 291 #[.int .i64 x] w fun e w' =>e= .returned (.bool false)∧w' =w:=by
 go_enter Tryz.func291,Tryz.ntmps291
 go_wp2
 go_ret
 exact⟨by simp,rfl⟩
theorem aM1 (x y:Int)(w:World):Calls Tryz.prog 277 #[.int .i64 x,.int .i64 y] w fun e w' =>e= .returned (.int .i64 (sZ x y))∧w' =w:=by
 go_enter Tryz.func277,Tryz.ntmps277
 go_wp2_with (go_at_call 291;refine(aWE _ _).mono ?_;rintro e w' ⟨rfl,hw⟩;rw[hw])
 all_goals (go_ret;refine⟨?_,rfl⟩;unfold sZ;(repeat' split)<;>first|rfl|(exfalso;omega))
def aBL (w:World)(a:Option Addr)(l:List Int):Prop:= ∀j x,l[j]? =some x→ ∃b o,a=some ⟨b,o,none⟩∧w.cell? ⟨b,o+j,none⟩=some (.int .i64 x)
set_option maxHeartbeats 1000000 in
theorem aM2 (a1 a2:Option Addr)(c1 c2:Nat)(l m:List Int)(w:World)(hl:l.length≤9223372036854775807)(hm:m.length≤9223372036854775807)(h1:aBL w a1 l)(h2:aBL w a2 m):
 Calls Tryz.prog 262 #[.slice a1 l.length c1,.slice a2 m.length c2] w fun e w' =>e= .returned (.int .i64 (cF l m))∧w' =w:=by
 have H1:=Lib.hid h1
 have H2:=Lib.hid h2
 clear h1 h2
 go_enter Tryz.func262,Tryz.ntmps262
 go_wp2
 go_loop [5,6,7,8,11] (fun _ _ _ _ s=> ∃k:Nat,s= .int .i64 k∧k≤l.length∧k≤m.length∧cF (l.drop k) (m.drop k)=cF l m) (fun _ _ _ _ s=>l.length - (intOf s).toNat)
 case atStart=>exact⟨0,rfl,Nat.zero_le _,Nat.zero_le _,rfl⟩
 case round=>
  obtain⟨k,rfl,hk,hk2,hv⟩:=hrel
  have HV:=Lib.hid hv
  clear hv
  by_cases hlt:k<l.length
  ·obtain⟨x,hx⟩:=dE hlt
   obtain⟨b1,o1,rfl,g1⟩:=H1.out k x hx
   by_cases hlt2:k<m.length
   ·obtain⟨y,hy⟩:=dE hlt2
    obtain⟨b2,o2,rfl,g2⟩:=H2.out k y hy
    have HD:=Lib.hid (show cF l m=if sZ x y=0 then cF (l.drop (k+1)) (m.drop (k+1)) else sZ x y by rw[←HV.out,lP hx,lP hy,aJb])
    by_cases hc:sZ x y=0
    ·have HC:=Lib.hid hc
     clear hc
     go_wp2_with (go_at_call 277;refine(aM1 _ _ _).mono ?_;rintro e w' ⟨rfl,hw⟩;rw[hw,HC.out])
     exact⟨⟨k+1,by simp,by omega,by omega,by rw[HD.out,if_pos HC.out]⟩,by simp[intOf];omega⟩
    ·have HC:=Lib.hid hc
     have hcb:(sZ x y !=0)=true:=by simpa using hc
     clear hc
     go_wp2_with (go_at_call 277;refine(aM1 _ _ _).mono ?_;rintro e w' ⟨rfl,hw⟩;rw[hw])
     go_ret
     refine⟨?_,rfl⟩
     rw[HD.out,if_neg HC.out];rfl
   ·have hge:m.length≤k:=by omega
    have HE:=Lib.hid (jW (l:=l) (m:=m) (k:=k) ⟨hk,hk2⟩ (.inr hlt2))
    go_wp2
    go_ret
    refine⟨?_,rfl⟩
    rw[←HV.out,HE.out,if_neg (by omega),if_pos (by omega)];rfl
  ·have HE:=Lib.hid (jW (l:=l) (m:=m) (k:=k) ⟨hk,hk2⟩ (.inl hlt))
   by_cases hlm:l.length<m.length
   ·go_wp2
    go_ret
    refine⟨?_,rfl⟩
    rw[←HV.out,HE.out,if_pos hlm];rfl
   ·go_wp2
    go_ret
    refine⟨?_,rfl⟩
    rw[←HV.out,HE.out,if_neg hlm,if_neg (by omega)];rfl
theorem aTW (a1 a2:Option Addr)(c1 c2:Nat)(l m:List Int)(w:World)(hl:l.length≤9223372036854775807)(hm:m.length≤9223372036854775807)(h1:aBL w a1 l)(h2:aBL w a2 m):
 Calls Tryz.prog 252 #[.slice a1 l.length c1,.slice a2 m.length c2] w fun e w' =>e= .returned (.int .i64 (cF l m))∧w' =w:=by
 have HC:=Lib.hid (aM2 a1 a2 c1 c2 l m w hl hm h1 h2)
 clear h1 h2
 go_enter Tryz.func252,Tryz.ntmps252
 go_wp2_with (go_at_call 262;refine HC.out.mono ?_;rintro e w' ⟨rfl,hw⟩;rw[hw])
 go_ret
 exact⟨rfl,rfl⟩
end Go.Proofs.YtlidmoeecphbmaaGreat
namespace Go.Proofs.YtlidmoeecphbmaaGreat
open Go.ChangeShapes Go.WideShapes Go.ChangeAt Go.RowKit
set_option linter.unusedVariables false
set_option linter.unusedSimpArgs false
set_option maxRecDepth 100000
set_option maxHeartbeats 4000000
theorem aAY (l:List Int):cF l l=0:=eV.2 rfl
theorem qN: ∀{l m:List Int},cF l m<0↔0<cF m l
 | [],[]=>by simp[cF]
 | [],_::_=>by simp[cF]
 | _::_,[]=>by simp[cF]
 | a::l,b::m=>by
   simp only[cF]
   by_cases h1:a<b
   ·simp[h1,show ¬b<a by omega]
   ·by_cases h2:b<a
    ·simp[h1,h2]
    ·simp only[h1,h2,if_false];exact qN
theorem mE: ∀{l m n:List Int},cF l m<0→cF m n<0→cF l n<0
 | [],[],n,h1,_=>by simp[cF] at h1
 | [],_::_,[],_,h2=>by simp[cF] at h2
 | [],_::_,_::_,_,_=>by simp[cF]
 | _::_,[],n,h1,_=>by simp[cF] at h1
 | a::l,b::m,[],_,h2=>by simp[cF] at h2
 | a::l,b::m,c::n,h1,h2=>by
   simp only[cF] at*
   rcases Int.lt_trichotomy a b with ab | ab | ab
   ·rcases Int.lt_trichotomy b c with bc | bc | bc
    ·rw[if_pos (by omega)];decide
    ·subst bc;rw[if_pos ab];decide
    ·rw[if_neg (by omega),if_pos bc] at h2;exact absurd h2 (by decide)
   ·subst ab
    rcases Int.lt_trichotomy a c with bc | bc | bc
    ·rw[if_pos bc];decide
    ·subst bc
     rw[if_neg (by omega),if_neg (by omega)] at*
     exact mE h1 h2
    ·rw[if_neg (by omega),if_pos bc] at h2;exact absurd h2 (by decide)
   ·rw[if_neg (by omega),if_pos ab] at h1;exact absurd h1 (by decide)
theorem aDz {l m n:List Int}(h1: ¬cF l m<0)(h2: ¬cF m n<0): ¬cF l n<0:=by
 intro h
 by_cases e:cF l m=0
 ·rw[eV.1 e] at h;exact h2 h
 ·exact h2 (mE (qN.2 (by omega)) h)
def leR (a b:List Int):Bool:=decide (cF a b≤0)
theorem aFS {a b:List Int}:leR a b=true↔ ¬cF b a<0:=by
 rw[leR,decide_eq_true_eq]
 constructor
 ·intro h q
  have:=qN.1 q
  omega
 ·intro h
  have: ¬0<cF a b:=fun q=>h (qN.2 q)
  omega
theorem aLA {a b:List Int}(h1:leR a b=true)(h2:leR b a=true):a=b:=by
 rw[aFS] at h1 h2
 have: ¬0<cF a b:=fun q=>h1 (qN.2 q)
 exact eV.1 (by omega)
def dI (l:List (List Int)):List (List Int):=l.mergeSort leR
theorem aBM (l:List (List Int)):(dI l).Perm l:=List.mergeSort_perm l leR
theorem aGZ (l:List (List Int)):(dI l).Pairwise (fun a b=>leR a b=true):=
 List.pairwise_mergeSort (fun a b c h1 h2=>by rw[aFS] at*;exact aDz h2 h1) (fun a b=>by
  by_cases h:cF b a<0
  ·have:leR b a=true:=by rw[leR,decide_eq_true_eq];omega
   simp[this]
  ·have:leR a b=true:=aFS.2 h
   simp[this]) l
theorem aTX {l m:List (List Int)}(hp:m.Perm l)(hs:m.Pairwise (fun a b=>leR a b=true)):m=dI l:=
 List.Perm.eq_of_pairwise (le:=fun a b=>leR a b=true) (fun a b _ _ h1 h2=>aLA h1 h2) hs (aGZ l) (hp.trans (aBM l).symm)
theorem aDY (l:List (List Int)):(dI l).length=l.length:=(aBM l).length_eq
end Go.Proofs.YtlidmoeecphbmaaGreat
namespace Go.Proofs.YtlidmoeecphbmaaGreat
open Go.ChangeShapes Go.WideShapes Go.ChangeAt Go.RowKit Go.Shelf Go.Lib
set_option linter.unusedVariables false
set_option linter.unusedSimpArgs false
theorem aG0 {w:World}{k:Nat}{ι:Type}(f:ι→List bT)(g:ι→List Value)(h:ι→List Nat): ∀{L:List ι},(∀i∈L,(f i).length=k∧dH w (f i) (g i) (h i))→cR w k (L.map f) (L.map g) (L.map h)
 | [],_=>by simp only[List.map_nil];unfold cR;exact⟨rfl,rfl⟩
 | i::L,hL=>by
   simp only[List.map_cons]
   unfold cR
   exact⟨_,_,_,_,rfl,rfl,(hL i (by simp)).1,(hL i (by simp)).2,aG0 f g h fun j hj=>hL j (by simp[hj])⟩
theorem aAZ {w:World}{k:Nat}: ∀{xs:List (List bT)} {css:List (List Value)} {Fs:List (List Nat)},cR w k xs css Fs→css.length=xs.length∧Fs.length=xs.length
 | [],_,_,h=>by unfold cR at h;rw[h.1,h.2];exact⟨rfl,rfl⟩
 | x::xs,_,_,h=>by
   unfold cR at h
   obtain⟨c,css',F,Fs',rfl,rfl,_,_,h3⟩:=h
   have:=aAZ h3
   simp[this.1,this.2]
theorem yI {w:World}{k:Nat}: ∀{xs:List (List bT)} {css:List (List Value)} {Fs:List (List Nat)} {i:Nat} {x:List bT},cR w k xs css Fs→xs[i]? =some x→ ∃c F,css[i]? =some c∧Fs[i]? =some F∧x.length=k∧dH w x c F
 | [],_,_,_,_,_,hx=>by simp at hx
 | y::xs,_,_,0,x,h,hx=>by
   unfold cR at h
   obtain⟨c,css',F,Fs',rfl,rfl,h1,h2,_⟩:=h
   simp at hx;subst hx
   exact⟨c,F,rfl,rfl,h1,h2⟩
 | y::xs,_,_,i+1,x,h,hx=>by
   unfold cR at h
   obtain⟨c,css',F,Fs',rfl,rfl,_,_,h3⟩:=h
   simp at hx
   simpa using yI h3 hx
theorem pS: ∀(l:List (List Value)) (i:Nat) (v:Value),(∀d∈l,d.length=1)→l[i]? =some [v]→l.flatten[i]? =some v
 | [],i,v,_,h=>by simp at h
 | d::l,0,v,hd,h=>by simp at h;subst h;simp
 | d::l,i+1,v,hd,h=>by
   have h1:=hd d (by simp)
   rw[List.flatten_cons,List.getElem?_append_right (by omega),h1]
   exact pS l i v (fun d' hd' =>hd d' (by simp[hd'])) (by simpa using h)
theorem aG1 {ι:Type}(f:ι→Value): ∀L:List ι,(L.map fun i=>[f i]).flatten=L.map f
 | []=>rfl
 | i::L=>by rw[List.map_cons,List.flatten_cons,aG1 f L];rfl
theorem aC5: ∀(l:List (List Value)),(∀d∈l,d.length=1)→l.flatten.length=l.length
 | [],_=>rfl
 | d::l,hd=>by
   rw[List.flatten_cons,List.length_append,hd d (by simp),aC5 l fun d' hd' =>hd d' (by simp[hd'])]
   simp;omega
theorem aWo {w:World}{e:Nat}{r:List Int}{c:List Value}{F:List Nat}(h:dH w [.sl e 1 (r.map intD)] c F): ∃a cap,c= [.slice a r.length cap]∧aBL w a r∧(∀x∈a,x.block∈F)∧r.length≤9223372036854775807:=by
 unfold dH at h
 obtain⟨v,cs',F1,F2,rfl,rfl,h1,h2⟩:=h
 unfold dH at h2
 obtain⟨rfl,rfl⟩:=h2
 unfold oX at h1
 obtain⟨css,Fs,q1,q2,q3⟩:=h1
 rcases q1.2 with ⟨rfl,hz⟩ | ⟨g,cap,cur,rfl,_,hb,hn,hcap2,hsz,htk⟩
 ·simp at hz
  subst hz
  exact⟨none,0,rfl,fun j x hx=>by simp at hx,by simp,by simp⟩
 ·refine⟨some ⟨g,0,none⟩,cap,by simp,fun j x hx=>⟨g,0,rfl,?_⟩,fun x hx=>?_,by have:cap≤maxLen:=hcap2;unfold maxLen at this;simp at hn;omega⟩
  ·obtain⟨c0,F0,g1,_,_,g4⟩:=yI q3 (show (r.map intD)[j]? =some (intD x) by rw[List.getElem?_map,hx];rfl)
   unfold intD dH at g4
   obtain⟨v0,cs0,_,_,rfl,_,g5,g6⟩:=g4
   unfold dH at g6
   obtain⟨rfl,_⟩:=g6
   unfold oX at g5
   obtain⟨rfl,_⟩:=g5
   have hlen: ∀d∈css,d.length=1:=fun d hd=>by
    obtain⟨i,hi⟩:=List.getElem?_of_mem hd
    have hil:i<(r.map intD).length:=by
     have:=(aAZ q3).1
     have:=(List.getElem?_eq_some_iff.1 hi).1
     omega
    obtain⟨c1,F1,k1,_,k3,k4⟩:=yI q3 (List.getElem?_eq_getElem hil)
    rw[hi] at k1
    injection k1 with k1;subst k1
    rw[List.getElem_map] at k4
    unfold intD dH at k4
    obtain⟨_,_,_,_,rfl,_,_,k6⟩:=k4
    unfold dH at k6
    rw[k6.1];rfl
   have hflat:css.flatten[j]? =some (.int .i64 x):=by
    exact pS css j _ hlen g1
   have hj:j<r.length:=(List.getElem?_eq_some_iff.1 hx).1
   simp only[World.cell?,hb,Nat.zero_add,Option.isSome_none,Bool.false_eq_true,if_false]
   rw[←Array.getElem?_toList,←hflat,←htk,List.getElem?_take_of_lt (by simpa using hj)]
  ·simp at hx
   subst hx
   rw[q2]
   simp[Value.ownBlock]
theorem aJf {w:World}{enc:Nat→Value}{g n:Nat}{os:Array Obj}{cur:Array Value}{e:TypeId}{fr:Nat × Nat}(d:Array Nat)(hb:w.heap[g]? =some (.cells cur e fr)):
 (sortWorld enc w g 0 n d os).heap[g]? =some (.cells (Go.Sort.putCells enc 0 d cur) e fr):=by
 have hg:g<w.heap.size:=(Array.getElem?_eq_some_iff.1 hb).1
 unfold sortWorld
 rw[Go.Sort.heap_grow_old _ _ (by simpa using hg)]
 simp[Go.Sort.putRow,Go.Sort.mapBlock,Go.Sort.ahead,Array.getElem?_modify,hb,Go.Sort.onCells]
theorem rJ {w:World}{enc:Nat→Value}{g n k:Nat}{os:Array Obj}(d:Array Nat)(hk:k<w.heap.size)(hne:k≠g):(sortWorld enc w g 0 n d os).heap[k]? =w.heap[k]? :=by
 unfold sortWorld
 rw[Go.Sort.heap_grow_old _ _ (by simpa using hk)]
 simp[Go.Sort.putRow,Go.Sort.mapBlock,Go.Sort.ahead,Array.getElem?_modify,Ne.symm hne]
theorem aM4 (enc:Nat→Value)(cur:Array Value)(ts:List Nat)(h:ts.length≤cur.size):(Go.Sort.putCells enc 0 ts.toArray cur).toList.take ts.length=ts.map enc:=by
 apply List.ext_getElem?
 intro j
 by_cases hj:j<ts.length
 ·rw[List.getElem?_take_of_lt hj,Array.getElem?_toList]
  simp[Go.Sort.putCells,hj,show j<cur.size by omega]
 ·rw[List.getElem?_take_eq_none (by omega),List.getElem?_eq_none (by simp;omega)]
theorem aA0 {w w' :World}{a:Option Addr}{r:List Int}(h:aBL w a r)(hk: ∀x∈a,w'.heap[x.block]? =w.heap[x.block]?):aBL w' a r:=fun j x hx=>by
 obtain⟨b,o,rfl,hc⟩:=h j x hx
 refine⟨b,o,rfl,?_⟩
 have:=hk ⟨b,o,none⟩ rfl
 unfold World.cell? at*
 simp only at*
 rw[this];exact hc
end Go.Proofs.YtlidmoeecphbmaaGreat
