/-
  How codes read.
-/
import Derived.Test.YtepphdhnkaiamaaDa
namespace Go.Proofs.Ytepphdhnkaiamaa
open Go.ChangeShapes Go.WideShapes Go.ChangeAt Go.RowKit
set_option linter.unusedVariables false
set_option linter.unusedSimpArgs false
set_option maxRecDepth 100000
set_option maxHeartbeats 4000000
def FByte (_ : Int) : Prop := True
def FByteS (l : List Int) : Prop := ∀ x ∈ l, FByte x
def cByteS (l : List Int) : Nat := l.length
def ByteR : Rd Int := fun _ cs n => cs = [.int .u8 n]
theorem trod_byte {H : Type} {enc : TypeId × Value → H} {P : Program} {w : World} {base : Nat} {spare : Nat → Bool} {held : Bool} {t : TypeId} {fuel : Nat} {cs : List Value} {x : DataW H × List MemPlace} (ht : P.underlying t = some (.int .u8)) (h : DataW.trod enc P w base spare held fuel t cs = some x) : ∃ n, ByteR w cs n := by
  obtain ⟨n, rfl, _, _⟩ := DataW.trod_int ht h
  exact ⟨n, rfl⟩
def RByteS : Rd (List Int) := fun w cs l => RdL (Lv w) w [.sl 5 1 (l.map byD)] cs ∧ FByteS l
theorem openByteS {H : Type} {enc : TypeId × Value → H} {w : World} {base : Nat} {spare : Nat → Bool} {held : Bool} {fuel : Nat} {cs : List Value} {x : DataW H × List MemPlace} (h : DataW.trod enc Try.prog w base spare held fuel 22 cs = some x) : ∃ l, RByteS w cs l := by
  obtain ⟨l, hl⟩ := trod_slice (k := 1) (R := ByteR) Try.underlying22 (by kernel_rfl) (by omega) (fun _ _ _ h => trod_byte Try.underlying5 h) h
  obtain ⟨A, c, rfl, _⟩ := id hl
  exact ⟨l, rdL_cons (rd_slice (R := ByteR) (enc := byD) (fun cs x h => by obtain rfl := h; exact rdL_cons rdV_int rdL_nil) hl) rdL_nil, fun _ _ => trivial⟩
end Go.Proofs.Ytepphdhnkaiamaa
