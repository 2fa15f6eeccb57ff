/-
  A library sort of an owned row of ints, in place.
-/
import Derived.Test.YtcgjlddpbkponaaEng2
import Derived.Sort.OwnSortedInts
namespace Go.Proofs.Ytcgjlddpbkponaa
open Go.ChangeShapes Go.WideShapes Go.ChangeAt Go.RowKit
set_option linter.unusedVariables false
abbrev rowI (n : Int) : List Dat := [.int .i64 n]
section
variable {P : Program} {S : St}
theorem owRs_ints {w : World} : ∀ {l : List Int} {css : List (List Value)} {Fs : List (List Nat)}, OwRs w 1 (l.map rowI) css Fs → css.flatten = l.map (Value.int .i64) ∧ Fs.flatten = []
  | [], css, Fs, h => by
    simp only [List.map_nil] at h
    unfold OwRs at h
    rw [h.1, h.2]; simp
  | n :: l, css, Fs, h => by
    simp only [List.map_cons] at h
    unfold OwRs at h
    obtain ⟨c, css', F, Fs', rfl, rfl, _, h1, h2⟩ := h
    obtain ⟨q1, q2⟩ := owRs_ints h2
    unfold OwCs at h1
    obtain ⟨v, cs', F1, F2, rfl, rfl, h3, h4⟩ := h1
    unfold OwCs at h4
    unfold OwV at h3
    simp [q1, q2, h4.1, h4.2, h3.1, h3.2]
theorem owRs_of_ints (w : World) : ∀ (l : List Int), OwRs w 1 (l.map rowI) (l.map fun n => [Value.int .i64 n]) (l.map fun _ => [])
  | [] => by simp only [List.map_nil]; unfold OwRs; exact ⟨rfl, rfl⟩
  | n :: l => by
    simp only [List.map_cons]
    unfold OwRs
    exact ⟨_, _, _, _, rfl, rfl, rfl, owCs_cons owV_int owCs_nil, owRs_of_ints w l⟩
theorem flat_ints : ∀ (m : List Int), (m.map fun n => [Value.int .i64 n]).flatten = m.map (Value.int .i64)
  | [] => rfl
  | a :: l => by simp only [List.map_cons, List.flatten_cons, flat_ints l]; rfl
theorem sound_sort {o : Oper} {f : FuncId} {x : Operand} {ts : Array TypeId} {h e : Nat} {l m : List Int} (ho : o.op = .call { callee := .value (.func f), args := #[x], argTypes := ts }) (hc : callable P f = true) (hx : S.ev x = .own h) (hr : S.res h = some (.arr e 1 true (l.map rowI))) (hm : m.length = l.length) (h0 : 0 < l.length)
    (hs : ∀ (blk cap : Nat) (w : World), Go.Sort.Holds (Value.int .i64) w blk 0 l.toArray → blk < w.heap.size → Calls P f #[.slice (some ⟨blk, 0, none⟩) l.length cap] w (fun ex w' => ex = .returned (.tuple #[]) ∧ ∃ n os, w' = Go.Sort.grow (Go.Sort.putRow (Value.int .i64) (Go.Sort.ahead w n) blk 0 m.toArray) os)) :
    Sound P o S ⟨.tup [], [h], [(h, .arr e 1 true (m.map rowI))]⟩ := by
  intro K φ A w0 N a w Q hd hG
  obtain ⟨pl, hp, hh⟩ := hG.dom h _ hr
  obtain ⟨css, Fs, q1, q2, q3, q4⟩ := hh
  obtain ⟨e1, e2⟩ := owRs_ints q4
  rw [e1, List.length_map] at q1
  have hev := hG.ev x
  rw [hx] at hev
  unfold MatchV at hev
  have hval := hev pl hp
  rcases q1.2 with ⟨_, hz⟩ | ⟨g, cap, cur, hv, hg, hblk, hn, hcap, hsz, htk⟩
  · omega
  · have htop : pl.top = [g] := by rw [q2, hv]; rfl
    have hlt : g < w.heap.size := (Array.getElem?_eq_some_iff.1 hblk).1
    have hH : Go.Sort.Holds (Value.int .i64) w g 0 l.toArray := holds_of_blockI hblk (by rw [Nat.mul_one] at htk; exact htk)
    unfold Oper.wp
    rw [run_call ho hc a w, Oper.upon_enter]
    have hargs : (#[x].map a.eval) = #[.slice (some ⟨g, 0, none⟩) l.length cap] := by simp [hval, hv]
    rw [hargs]
    refine (hs g cap w hH hlt).mono ?_
    rintro ex w' ⟨rfl, n, os, rfl⟩
    have hgb := grownBy_sortedI (w := w) (g := g) (n := n) (os := os) m.toArray
    have hchg : Chg (· ∈ pl.top) w (Go.Sort.grow (Go.Sort.putRow (Value.int .i64) (Go.Sort.ahead w n) g 0 m.toArray) os) := by
      rw [htop]
      exact ⟨hgb.os, hgb.tape, hgb.output, hgb.size, fun k hk hn => hgb.block k hk (fun e => hn (by simpa using e))⟩
    have hown := ownsRow_sortedI (n := n) (os := os) hm hg hblk hn hcap hsz
    have hH' : Holds K φ (Go.Sort.grow (Go.Sort.putRow (Value.int .i64) (Go.Sort.ahead w n) g 0 m.toArray) os) pl (.arr e 1 true (m.map rowI)) := by
      refine ⟨m.map fun n => [Value.int .i64 n], m.map fun _ => [], ?_, q2, ?_, owRs_of_ints _ m⟩
      · rw [List.length_map, hm, hv]
        rw [flat_ints]
        exact hown
      · rw [q3, e2]; simp
    exact ⟨_, _, .tuple #[], rfl, (hG.writeH hr hp hchg hH').put hd (by unfold MatchV; exact ⟨#[], rfl, by unfold MatchL; rfl⟩), tr_write hG hp hchg⟩
theorem sd_sort {sl : List (Nat × AV)} {rs : List (Nat × Option Rs)} {d : Nat} {ty : TypeId} {pos : String} {aft : Array Edge} {gd : Option (Nat × Bool)} {f : FuncId} {x : Operand} {ts : Array TypeId} {h e : Nat} {l m : List Int} (hc : callable P f = true)
    (hs : ∀ (blk cap : Nat) (w : World), Go.Sort.Holds (Value.int .i64) w blk 0 l.toArray → blk < w.heap.size → Calls P f #[.slice (some ⟨blk, 0, none⟩) l.length cap] w (fun ex w' => ex = .returned (.tuple #[]) ∧ ∃ n os, w' = Go.Sort.grow (Go.Sort.putRow (Value.int .i64) (Go.Sort.ahead w n) blk 0 m.toArray) os))
    (hm : m.length = l.length) (h0 : 0 < l.length) (hx : evE sl x = .own h) (hr : findO rs h = some (.arr e 1 true (l.map rowI))) : Sound P ⟨some d, .call { callee := .value (.func f), args := #[x], argTypes := ts }, ty, pos, aft, gd⟩ (mk sl rs) ⟨.tup [], [h], [(h, .arr e 1 true (m.map rowI))]⟩ :=
  sound_sort rfl hc (by rw [evE_eq]; exact hx) hr hm h0 hs
end
end Go.Proofs.Ytcgjlddpbkponaa
