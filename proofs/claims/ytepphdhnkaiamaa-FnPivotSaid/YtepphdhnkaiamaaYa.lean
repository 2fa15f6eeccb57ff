/-
  Draws: the cursor, bytes, numbers below, picks.
-/
import Derived.Test.YtepphdhnkaiamaaDa
namespace Go.Proofs.Ytepphdhnkaiamaa
open Go.ChangeShapes Go.WideShapes Go.ChangeAt Go.RowKit
set_option linter.unusedVariables false
set_option linter.unusedSimpArgs false
set_option maxRecDepth 100000
set_option maxHeartbeats 4000000
structure Cu where
  i : Nat
  h : Int
def rndH (h : Int) : Int := IntKind.i64.wrap (IntKind.i64.wrap (h * 6364136223846793005) + 1442695040888963407)
def rndX (h : Int) : Int := bitI .and .i64 (bitI .xor .i64 (h / 2 ^ 33) (h / 2 ^ 45)) 255
def hashD (l : List Int) : Nat → Int
  | 0 => 10101 + (l.length : Int)
  | k + 1 => bitI .and .i64 (IntKind.i64.wrap (IntKind.i64.wrap (IntKind.i64.wrap (hashD l k * 131) + IntKind.i64.wrap (l.getD k 0)) + 7)) 1073741823
def curN (l : List Int) : Cu := ⟨0, hashD l (min l.length 4000)⟩
def byteD (l : List Int) (u : Cu) : Int × Cu := if (u.i : Int) < (l.length : Int) then (bitI .and .i64 (IntKind.i64.wrap (rndX (rndH u.h) + IntKind.i64.wrap (l.getD u.i 0))) 255, ⟨u.i + 1, rndH u.h⟩) else (rndX (rndH u.h), ⟨u.i, rndH u.h⟩)
theorem and_mask (m : Int) (k : Nat) (hk : k ≤ 9223372036854775807) : 0 ≤ bitI .and .i64 m (k : Int) ∧ bitI .and .i64 m (k : Int) ≤ (k : Int) := by
  have e2 : (BitVec.ofInt 64 (k : Int)).toNat = k := by simp; omega
  have hle : (BitVec.ofInt 64 m).toNat &&& k ≤ k := Nat.and_le_right
  unfold bitI
  show 0 ≤ IntKind.i64.wrap ((BitVec.ofInt 64 m &&& BitVec.ofInt 64 (k : Int)).toNat : Nat) ∧ IntKind.i64.wrap ((BitVec.ofInt 64 m &&& BitVec.ofInt 64 (k : Int)).toNat : Nat) ≤ _
  rw [BitVec.toNat_and, e2, IntWalk.i64_in _ ⟨by omega, by omega⟩]
  omega
theorem hash_at {l : List Int} {k : Nat} {x : Int} (h : l[k]? = some x) : hashD l (k + 1) = bitI .and .i64 (IntKind.i64.wrap (IntKind.i64.wrap (IntKind.i64.wrap (hashD l k * 131) + IntKind.i64.wrap x) + 7)) 1073741823 := by rw [hashD, List.getD_eq_getElem?_getD, h]; rfl
theorem byte_in {l : List Int} {u : Cu} {x : Int} (h : (u.i : Int) < (l.length : Int)) (hx : l[u.i]? = some x) : byteD l u = (bitI .and .i64 (IntKind.i64.wrap (rndX (rndH u.h) + IntKind.i64.wrap x)) 255, ⟨u.i + 1, rndH u.h⟩) := by
  rw [byteD, if_pos h, List.getD_eq_getElem?_getD, hx]; rfl
theorem byte_out {l : List Int} {u : Cu} (h : ¬ (u.i : Int) < (l.length : Int)) : byteD l u = (rndX (rndH u.h), ⟨u.i, rndH u.h⟩) := by rw [byteD, if_neg h]
theorem byte_bnd (l : List Int) (u : Cu) : 0 ≤ (byteD l u).1 ∧ (byteD l u).1 ≤ 255 := by
  unfold byteD
  split
  · exact and_mask _ 255 (by decide)
  · exact and_mask _ 255 (by decide)
def belowD (l : List Int) (u : Cu) (n : Int) : Int × Cu :=
  if n ≤ 0 then (0, u) else if n ≤ 256 then (Int.tmod (byteD l u).1 n, (byteD l u).2) else
    (Int.tmod ((byteD l u).1 * 16777216 + (byteD l (byteD l u).2).1 * 65536 + (byteD l (byteD l (byteD l u).2).2).1 * 256 + (byteD l (byteD l (byteD l (byteD l u).2).2).2).1) n, (byteD l (byteD l (byteD l (byteD l u).2).2).2).2)
theorem tmod_to {x n : Int} (hx : 0 ≤ x) (hn : 0 < n) : 0 ≤ Int.tmod x n ∧ Int.tmod x n < n := ⟨Int.tmod_nonneg n hx, Int.tmod_lt_of_pos x hn⟩
theorem below_bnd (l : List Int) (u : Cu) {n : Int} (hn : 0 < n) : 0 ≤ (belowD l u n).1 ∧ (belowD l u n).1 < n := by
  unfold belowD
  rw [if_neg (by omega)]
  have h1 := byte_bnd l u
  have h2 := byte_bnd l (byteD l u).2
  have h3 := byte_bnd l (byteD l (byteD l u).2).2
  have h4 := byte_bnd l (byteD l (byteD l (byteD l u).2).2).2
  split
  · exact tmod_to (by omega) hn
  · exact tmod_to (by omega) hn
theorem below_z (l : List Int) (u : Cu) {n : Int} (h : n ≤ 0) : belowD l u n = (0, u) := by rw [belowD, if_pos h]
theorem below_s (l : List Int) (u : Cu) {n : Int} (h : ¬ n ≤ 0) (h2 : n ≤ 256) : belowD l u n = (Int.tmod (byteD l u).1 n, (byteD l u).2) := by rw [belowD, if_neg h, if_pos h2]
theorem below_l (l : List Int) (u : Cu) {n : Int} (h : ¬ n ≤ 0) (h2 : ¬ n ≤ 256) : belowD l u n = (Int.tmod ((byteD l u).1 * 16777216 + (byteD l (byteD l u).2).1 * 65536 + (byteD l (byteD l (byteD l u).2).2).1 * 256 + (byteD l (byteD l (byteD l (byteD l u).2).2).2).1) n, (byteD l (byteD l (byteD l (byteD l u).2).2).2).2) := by rw [belowD, if_neg h, if_neg h2]
def itN {σ : Type} (f : σ → σ) : Nat → σ → σ
  | 0, s => s
  | k + 1, s => f (itN f k s)
theorem itN_inv {σ : Type} {f : σ → σ} (P : Nat → σ → Prop) {s : σ} (h0 : P 0 s) (h1 : ∀ k x, P k x → P (k + 1) (f x)) : ∀ k, P k (itN f k s)
  | 0 => h0
  | k + 1 => h1 k _ (itN_inv P h0 h1 k)
def seqI (f : Cu → Int × Cu) : Nat → Cu → List Int × Cu
  | 0, u => ([], u)
  | k + 1, u => ((seqI f k u).1 ++ [(f (seqI f k u).2).1], (f (seqI f k u).2).2)
theorem seqI_len (f : Cu → Int × Cu) (u : Cu) : ∀ k, (seqI f k u).1.length = k
  | 0 => rfl
  | k + 1 => by rw [seqI, List.length_append, seqI_len f u k]; rfl
theorem seqI_all {f : Cu → Int × Cu} {P : Int → Prop} (h : ∀ u, P (f u).1) (u : Cu) : ∀ k, ∀ x ∈ (seqI f k u).1, P x
  | 0, x, hx => by simp [seqI] at hx
  | k + 1, x, hx => by
    rw [seqI, List.mem_append] at hx
    rcases hx with hx | hx
    · exact seqI_all h u k x hx
    · rw [List.mem_singleton] at hx; subst hx; exact h _

abbrev k_d_byte (l : List Int) (u : Cu) : List AV × List (Nat × Rs) × AV × List (Nat × Rs) := ([.ptr 0 0], [(0, .box 84 [.p none (.sl 5 1 (l.map byD)), vI ((u.i : Nat) : Int), vI u.h])], vI ((byteD l u).1), [(0, .box 84 [.p none (.sl 5 1 (l.map byD)), vI (((byteD l u).2.i : Nat) : Int), vI ((byteD l u).2.h)])])
abbrev K_d_byte (l : List Int) (u : Cu) : Prop := Con2 Try.prog 88 (k_d_byte l u).1 (k_d_byte l u).2.1 (k_d_byte l u).2.2.1 (k_d_byte l u).2.2.2
theorem d_byte (l : List Int) (u : Cu) (hl : l.length ≤ 1048576) : K_d_byte l u := by
 refine con2_y tbOk mixedW Try.func88 (by kernel_rfl) (by kernel_rfl) (.raw <| .raw <| .len l.length <| .br (.elem _ byD l (fun e44 => .raw <| .raw <| .fin [(0, 0)])) (.fin [(0, 0)])) (p := (0 ≤ (33 : Int) ∧ (33 : Int) ≤ 64) ∧ ((0 ≤ (45 : Int) ∧ (45 : Int) ≤ 64) ∧ (Lm byD l ∧ (((decide (((u.i : Nat) : Int) < ((l.length : Nat) : Int))) = true → 0 ≤ ((u.i : Nat) : Int) ∧ Em byD l u.i fun e44 => inR (((u.i : Nat) : Int) + (1 : Int)) ∧ (bitI .and .i64 (IntKind.i64.wrap ((bitI .and .i64 (bitI .xor .i64 ((IntKind.i64.wrap ((IntKind.i64.wrap (u.h * (6364136223846793005 : Int))) + (1442695040888963407 : Int))) / 2 ^ 33) ((IntKind.i64.wrap ((IntKind.i64.wrap (u.h * (6364136223846793005 : Int))) + (1442695040888963407 : Int))) / 2 ^ 45)) (255 : Int)) + (IntKind.i64.wrap e44))) (255 : Int)) = ((byteD l u).1) ∧ l.map byD = l.map byD ∧ (((u.i : Nat) : Int) + (1 : Int)) = (((byteD l u).2.i : Nat) : Int) ∧ (IntKind.i64.wrap ((IntKind.i64.wrap (u.h * (6364136223846793005 : Int))) + (1442695040888963407 : Int))) = ((byteD l u).2.h) ∧ True) ∧ ((decide (((u.i : Nat) : Int) < ((l.length : Nat) : Int))) = false → (bitI .and .i64 (bitI .xor .i64 ((IntKind.i64.wrap ((IntKind.i64.wrap (u.h * (6364136223846793005 : Int))) + (1442695040888963407 : Int))) / 2 ^ 33) ((IntKind.i64.wrap ((IntKind.i64.wrap (u.h * (6364136223846793005 : Int))) + (1442695040888963407 : Int))) / 2 ^ 45)) (255 : Int)) = ((byteD l u).1) ∧ l.map byD = l.map byD ∧ ((u.i : Nat) : Int) = (((byteD l u).2.i : Nat) : Int) ∧ (IntKind.i64.wrap ((IntKind.i64.wrap (u.h * (6364136223846793005 : Int))) + (1442695040888963407 : Int))) = ((byteD l u).2.h) ∧ True))))) (by kernel_rfl) ?_
 refine ⟨⟨by omega, by omega⟩, ⟨by omega, by omega⟩, List.length_map _, fun c0 => ?_, fun c0 => ?_⟩
 ·replace c0 := yq c0
  refine ⟨by omega, rfl, by omega, fun e44 h44 => ?_⟩
  refine ⟨⟨by omega, by omega⟩, ?_, rfl, ?_, ?_, trivial⟩ <;> (first | rfl | (rw [byte_in c0 h44] <;> rfl) | (rw [byte_out c0] <;> rfl))
 ·replace c0 := nq c0
  refine ⟨?_, rfl, ?_, ?_, trivial⟩ <;> (first | rfl | (rw [byte_in c0 h44] <;> rfl) | (rw [byte_out c0] <;> rfl))

abbrev k_d_below (l : List Int) (u : Cu) (n : Int) : List AV × List (Nat × Rs) × AV × List (Nat × Rs) := ([.ptr 0 0, vI n], [(0, .box 84 [.p none (.sl 5 1 (l.map byD)), vI ((u.i : Nat) : Int), vI u.h])], vI ((belowD l u n).1), [(0, .box 84 [.p none (.sl 5 1 (l.map byD)), vI (((belowD l u n).2.i : Nat) : Int), vI ((belowD l u n).2.h)])])
abbrev K_d_below (l : List Int) (u : Cu) (n : Int) : Prop := Con2 Try.prog 61 (k_d_below l u n).1 (k_d_below l u n).2.1 (k_d_below l u n).2.2.1 (k_d_below l u n).2.2.2
theorem d_below (l : List Int) (u : Cu) (hl : l.length ≤ 1048576) (n : Int) : K_d_below l u n := by
 refine con2_y tbOk mixedW Try.func61 (by kernel_rfl) (by kernel_rfl) (.br (.fin [(0, 0)]) (.br (.callxs [.ptr 0 0] [(0, .box 84 [.p none (.sl 5 1 (l.map byD)), vI ((u.i : Nat) : Int), vI u.h])] [(0, 0)] (vI ((byteD l u).1)) [(0, .box 84 [.p none (.sl 5 1 (l.map byD)), vI (((byteD l u).2.i : Nat) : Int), vI ((byteD l u).2.h)])] <| .fin [(0, 0)]) (.callxs [.ptr 0 0] [(0, .box 84 [.p none (.sl 5 1 (l.map byD)), vI ((u.i : Nat) : Int), vI u.h])] [(0, 0)] (vI ((byteD l u).1)) [(0, .box 84 [.p none (.sl 5 1 (l.map byD)), vI (((byteD l u).2.i : Nat) : Int), vI ((byteD l u).2.h)])] <| .callxs [.ptr 0 0] [(0, .box 84 [.p none (.sl 5 1 (l.map byD)), vI ((((byteD l u).2).i : Nat) : Int), vI (((byteD l u).2).h)])] [(0, 0)] (vI ((byteD l ((byteD l u).2)).1)) [(0, .box 84 [.p none (.sl 5 1 (l.map byD)), vI (((byteD l ((byteD l u).2)).2.i : Nat) : Int), vI ((byteD l ((byteD l u).2)).2.h)])] <| .callxs [.ptr 0 0] [(0, .box 84 [.p none (.sl 5 1 (l.map byD)), vI ((((byteD l ((byteD l u).2)).2).i : Nat) : Int), vI (((byteD l ((byteD l u).2)).2).h)])] [(0, 0)] (vI ((byteD l ((byteD l ((byteD l u).2)).2)).1)) [(0, .box 84 [.p none (.sl 5 1 (l.map byD)), vI (((byteD l ((byteD l ((byteD l u).2)).2)).2.i : Nat) : Int), vI ((byteD l ((byteD l ((byteD l u).2)).2)).2.h)])] <| .callxs [.ptr 0 0] [(0, .box 84 [.p none (.sl 5 1 (l.map byD)), vI ((((byteD l ((byteD l ((byteD l u).2)).2)).2).i : Nat) : Int), vI (((byteD l ((byteD l ((byteD l u).2)).2)).2).h)])] [(0, 0)] (vI ((byteD l ((byteD l ((byteD l ((byteD l u).2)).2)).2)).1)) [(0, .box 84 [.p none (.sl 5 1 (l.map byD)), vI (((byteD l ((byteD l ((byteD l ((byteD l u).2)).2)).2)).2.i : Nat) : Int), vI ((byteD l ((byteD l ((byteD l ((byteD l u).2)).2)).2)).2.h)])] <| .fin [(0, 0)]))) (p := ((decide (n ≤ (0 : Int))) = true → (0 : Int) = ((belowD l u n).1) ∧ l.map byD = l.map byD ∧ ((u.i : Nat) : Int) = (((belowD l u n).2.i : Nat) : Int) ∧ u.h = ((belowD l u n).2.h) ∧ True) ∧ ((decide (n ≤ (0 : Int))) = false → ((decide (n ≤ (256 : Int))) = true → Con2 Try.prog 88 [.ptr 0 0] [(0, .box 84 [.p none (.sl 5 1 (l.map byD)), vI ((u.i : Nat) : Int), vI u.h])] (vI ((byteD l u).1)) [(0, .box 84 [.p none (.sl 5 1 (l.map byD)), vI (((byteD l u).2.i : Nat) : Int), vI ((byteD l u).2.h)])] ∧ l.map byD = l.map byD ∧ ((u.i : Nat) : Int) = ((u.i : Nat) : Int) ∧ u.h = u.h ∧ n ≠ 0 ∧ (Int.tmod ((byteD l u).1) n) = ((belowD l u n).1) ∧ l.map byD = l.map byD ∧ (((byteD l u).2.i : Nat) : Int) = (((belowD l u n).2.i : Nat) : Int) ∧ ((byteD l u).2.h) = ((belowD l u n).2.h) ∧ True) ∧ ((decide (n ≤ (256 : Int))) = false → Con2 Try.prog 88 [.ptr 0 0] [(0, .box 84 [.p none (.sl 5 1 (l.map byD)), vI ((u.i : Nat) : Int), vI u.h])] (vI ((byteD l u).1)) [(0, .box 84 [.p none (.sl 5 1 (l.map byD)), vI (((byteD l u).2.i : Nat) : Int), vI ((byteD l u).2.h)])] ∧ l.map byD = l.map byD ∧ ((u.i : Nat) : Int) = ((u.i : Nat) : Int) ∧ u.h = u.h ∧ Con2 Try.prog 88 [.ptr 0 0] [(0, .box 84 [.p none (.sl 5 1 (l.map byD)), vI ((((byteD l u).2).i : Nat) : Int), vI (((byteD l u).2).h)])] (vI ((byteD l ((byteD l u).2)).1)) [(0, .box 84 [.p none (.sl 5 1 (l.map byD)), vI (((byteD l ((byteD l u).2)).2.i : Nat) : Int), vI ((byteD l ((byteD l u).2)).2.h)])] ∧ l.map byD = l.map byD ∧ (((byteD l u).2.i : Nat) : Int) = ((((byteD l u).2).i : Nat) : Int) ∧ ((byteD l u).2.h) = (((byteD l u).2).h) ∧ Con2 Try.prog 88 [.ptr 0 0] [(0, .box 84 [.p none (.sl 5 1 (l.map byD)), vI ((((byteD l ((byteD l u).2)).2).i : Nat) : Int), vI (((byteD l ((byteD l u).2)).2).h)])] (vI ((byteD l ((byteD l ((byteD l u).2)).2)).1)) [(0, .box 84 [.p none (.sl 5 1 (l.map byD)), vI (((byteD l ((byteD l ((byteD l u).2)).2)).2.i : Nat) : Int), vI ((byteD l ((byteD l ((byteD l u).2)).2)).2.h)])] ∧ l.map byD = l.map byD ∧ (((byteD l ((byteD l u).2)).2.i : Nat) : Int) = ((((byteD l ((byteD l u).2)).2).i : Nat) : Int) ∧ ((byteD l ((byteD l u).2)).2.h) = (((byteD l ((byteD l u).2)).2).h) ∧ Con2 Try.prog 88 [.ptr 0 0] [(0, .box 84 [.p none (.sl 5 1 (l.map byD)), vI ((((byteD l ((byteD l ((byteD l u).2)).2)).2).i : Nat) : Int), vI (((byteD l ((byteD l ((byteD l u).2)).2)).2).h)])] (vI ((byteD l ((byteD l ((byteD l ((byteD l u).2)).2)).2)).1)) [(0, .box 84 [.p none (.sl 5 1 (l.map byD)), vI (((byteD l ((byteD l ((byteD l ((byteD l u).2)).2)).2)).2.i : Nat) : Int), vI ((byteD l ((byteD l ((byteD l ((byteD l u).2)).2)).2)).2.h)])] ∧ l.map byD = l.map byD ∧ (((byteD l ((byteD l ((byteD l u).2)).2)).2.i : Nat) : Int) = ((((byteD l ((byteD l ((byteD l u).2)).2)).2).i : Nat) : Int) ∧ ((byteD l ((byteD l ((byteD l u).2)).2)).2.h) = (((byteD l ((byteD l ((byteD l u).2)).2)).2).h) ∧ inR (((byteD l u).1) * (16777216 : Int)) ∧ inR (((byteD l ((byteD l u).2)).1) * (65536 : Int)) ∧ inR ((((byteD l u).1) * (16777216 : Int)) + (((byteD l ((byteD l u).2)).1) * (65536 : Int))) ∧ inR (((byteD l ((byteD l ((byteD l u).2)).2)).1) * (256 : Int)) ∧ inR (((((byteD l u).1) * (16777216 : Int)) + (((byteD l ((byteD l u).2)).1) * (65536 : Int))) + (((byteD l ((byteD l ((byteD l u).2)).2)).1) * (256 : Int))) ∧ inR ((((((byteD l u).1) * (16777216 : Int)) + (((byteD l ((byteD l u).2)).1) * (65536 : Int))) + (((byteD l ((byteD l ((byteD l u).2)).2)).1) * (256 : Int))) + ((byteD l ((byteD l ((byteD l ((byteD l u).2)).2)).2)).1)) ∧ n ≠ 0 ∧ (Int.tmod ((((((byteD l u).1) * (16777216 : Int)) + (((byteD l ((byteD l u).2)).1) * (65536 : Int))) + (((byteD l ((byteD l ((byteD l u).2)).2)).1) * (256 : Int))) + ((byteD l ((byteD l ((byteD l ((byteD l u).2)).2)).2)).1)) n) = ((belowD l u n).1) ∧ l.map byD = l.map byD ∧ (((byteD l ((byteD l ((byteD l ((byteD l u).2)).2)).2)).2.i : Nat) : Int) = (((belowD l u n).2.i : Nat) : Int) ∧ ((byteD l ((byteD l ((byteD l ((byteD l u).2)).2)).2)).2.h) = ((belowD l u n).2.h) ∧ True))) (by kernel_rfl) ?_
 have w1 := byte_bnd l u
 have w2 := byte_bnd l (byteD l u).2
 have w3 := byte_bnd l (byteD l (byteD l u).2).2
 have w4 := byte_bnd l (byteD l (byteD l (byteD l u).2).2).2
 refine ⟨fun c0 => ?_, fun c0 => ?_⟩
 ·replace c0 := yq c0
  refine ⟨?_, rfl, ?_, ?_, trivial⟩ <;> (first | (rw [below_z l u c0] <;> rfl) | (rw [below_s l u c0 c1] <;> rfl) | (rw [below_l l u c0 c1] <;> rfl))
 ·replace c0 := nq c0
  refine ⟨fun c1 => ?_, fun c1 => ?_⟩
  ·replace c1 := yq c1
   refine ⟨d_byte l u (by assumption), rfl, rfl, rfl, by omega, ?_, rfl, ?_, ?_, trivial⟩ <;> (first | (rw [below_z l u c0] <;> rfl) | (rw [below_s l u c0 c1] <;> rfl) | (rw [below_l l u c0 c1] <;> rfl))
  ·replace c1 := nq c1
   refine ⟨d_byte l u (by assumption), rfl, rfl, rfl, d_byte l ((byteD l u).2) (by assumption), rfl, rfl, rfl, d_byte l ((byteD l ((byteD l u).2)).2) (by assumption), rfl, rfl, rfl, d_byte l ((byteD l ((byteD l ((byteD l u).2)).2)).2) (by assumption), rfl, rfl, rfl, ⟨by omega, by omega⟩, ⟨by omega, by omega⟩, ⟨by omega, by omega⟩, ⟨by omega, by omega⟩, ⟨by omega, by omega⟩, ⟨by omega, by omega⟩, by omega, ?_, rfl, ?_, ?_, trivial⟩ <;> (first | (rw [below_z l u c0] <;> rfl) | (rw [below_s l u c0 c1] <;> rfl) | (rw [below_l l u c0 c1] <;> rfl))

abbrev k_d_once (l : List Int) (u : Cu) (n : Int) : List AV × List (Nat × Rs) × AV × List (Nat × Rs) := ([.ptr 0 0, vI n], [(0, .box 84 [.p none (.sl 5 1 (l.map byD)), vI ((u.i : Nat) : Int), vI u.h])], vB (decide ((belowD l u n).1 = 0)), [(0, .box 84 [.p none (.sl 5 1 (l.map byD)), vI (((belowD l u n).2.i : Nat) : Int), vI ((belowD l u n).2.h)])])
abbrev K_d_once (l : List Int) (u : Cu) (n : Int) : Prop := Con2 Try.prog 51 (k_d_once l u n).1 (k_d_once l u n).2.1 (k_d_once l u n).2.2.1 (k_d_once l u n).2.2.2
theorem d_once (l : List Int) (u : Cu) (hl : l.length ≤ 1048576) (n : Int) : K_d_once l u n := by
 refine con2_y tbOk mixedW Try.func51 (by kernel_rfl) (by kernel_rfl) (.callxs [.ptr 0 0, vI n] [(0, .box 84 [.p none (.sl 5 1 (l.map byD)), vI ((u.i : Nat) : Int), vI u.h])] [(0, 0)] (vI ((belowD l u n).1)) [(0, .box 84 [.p none (.sl 5 1 (l.map byD)), vI (((belowD l u n).2.i : Nat) : Int), vI ((belowD l u n).2.h)])] <| .fin [(0, 0)]) (p := Con2 Try.prog 61 [.ptr 0 0, vI n] [(0, .box 84 [.p none (.sl 5 1 (l.map byD)), vI ((u.i : Nat) : Int), vI u.h])] (vI ((belowD l u n).1)) [(0, .box 84 [.p none (.sl 5 1 (l.map byD)), vI (((belowD l u n).2.i : Nat) : Int), vI ((belowD l u n).2.h)])] ∧ n = n ∧ l.map byD = l.map byD ∧ ((u.i : Nat) : Int) = ((u.i : Nat) : Int) ∧ u.h = u.h ∧ (decide (((belowD l u n).1) = (0 : Int))) = (decide ((belowD l u n).1 = 0)) ∧ l.map byD = l.map byD ∧ (((belowD l u n).2.i : Nat) : Int) = (((belowD l u n).2.i : Nat) : Int) ∧ ((belowD l u n).2.h) = ((belowD l u n).2.h) ∧ True) (by kernel_rfl) ?_
 refine ⟨d_below l u (by assumption) n, rfl, rfl, rfl, rfl, ?_, rfl, rfl, rfl, trivial⟩
 ·rfl

def pickD (l : List Int) (u : Cu) (xs : List Int) : Int × Cu := (xs.getD (belowD l u xs.length).1.toNat 0, (belowD l u xs.length).2)
theorem pick_at {l : List Int} {u : Cu} {xs : List Int} {x : Int} (h : xs[(belowD l u xs.length).1.toNat]? = some x) : pickD l u xs = (x, (belowD l u xs.length).2) := by rw [pickD, List.getD_eq_getElem?_getD, h]; rfl
theorem pick_mem (l : List Int) (u : Cu) {xs : List Int} (h : 0 < xs.length) : (pickD l u xs).1 ∈ xs := by
  have hb := below_bnd l u (n := xs.length) (by omega)
  have hlt : (belowD l u xs.length).1.toNat < xs.length := by omega
  rw [pickD, List.getD_eq_getElem?_getD, List.getElem?_eq_getElem hlt]
  exact List.getElem_mem hlt

abbrev k_d_pick (l : List Int) (u : Cu) (xs : List Int) : List AV × List (Nat × Rs) × AV × List (Nat × Rs) := ([.ptr 0 0, .own 1], [(0, .box 84 [.p none (.sl 5 1 (l.map byD)), vI ((u.i : Nat) : Int), vI u.h]), (1, .arr 3 1 true (xs.map intD))], vI ((pickD l u xs).1), [(0, .box 84 [.p none (.sl 5 1 (l.map byD)), vI (((pickD l u xs).2.i : Nat) : Int), vI ((pickD l u xs).2.h)])])
abbrev K_d_pick (l : List Int) (u : Cu) (xs : List Int) : Prop := Con2 Try.prog 80 (k_d_pick l u xs).1 (k_d_pick l u xs).2.1 (k_d_pick l u xs).2.2.1 (k_d_pick l u xs).2.2.2
theorem d_pick (l : List Int) (u : Cu) (hl : l.length ≤ 1048576) (xs : List Int) (hx : 0 < xs.length) : K_d_pick l u xs := by
 refine con2_y tbOk mixedW Try.func80 (by kernel_rfl) (by kernel_rfl) (.len xs.length <| .callxs [.ptr 0 0, vI ((xs.length : Nat) : Int)] [(0, .box 84 [.p none (.sl 5 1 (l.map byD)), vI ((u.i : Nat) : Int), vI u.h])] [(0, 0)] (vI ((belowD l u ((xs.length : Nat) : Int)).1)) [(0, .box 84 [.p none (.sl 5 1 (l.map byD)), vI (((belowD l u ((xs.length : Nat) : Int)).2.i : Nat) : Int), vI ((belowD l u ((xs.length : Nat) : Int)).2.h)])] <| .len xs.length <| .elem _ intD xs (fun e11 => .fin [(0, 0)])) (p := Lm intD xs ∧ Con2 Try.prog 61 [.ptr 0 0, vI ((xs.length : Nat) : Int)] [(0, .box 84 [.p none (.sl 5 1 (l.map byD)), vI ((u.i : Nat) : Int), vI u.h])] (vI ((belowD l u ((xs.length : Nat) : Int)).1)) [(0, .box 84 [.p none (.sl 5 1 (l.map byD)), vI (((belowD l u ((xs.length : Nat) : Int)).2.i : Nat) : Int), vI ((belowD l u ((xs.length : Nat) : Int)).2.h)])] ∧ ((xs.length : Nat) : Int) = ((xs.length : Nat) : Int) ∧ l.map byD = l.map byD ∧ ((u.i : Nat) : Int) = ((u.i : Nat) : Int) ∧ u.h = u.h ∧ 0 ≤ ((belowD l u ((xs.length : Nat) : Int)).1) ∧ Lm intD xs ∧ ((belowD l u ((xs.length : Nat) : Int)).1) < ((xs.length : Nat) : Int) ∧ Em intD xs (((belowD l u ((xs.length : Nat) : Int)).1).toNat) fun e11 => e11 = ((pickD l u xs).1) ∧ l.map byD = l.map byD ∧ (((belowD l u ((xs.length : Nat) : Int)).2.i : Nat) : Int) = (((pickD l u xs).2.i : Nat) : Int) ∧ ((belowD l u ((xs.length : Nat) : Int)).2.h) = ((pickD l u xs).2.h) ∧ True) (by kernel_rfl) ?_
 have hb := below_bnd l u (n := xs.length) (by omega)
 refine ⟨List.length_map _, d_below l u (by assumption) ((xs.length : Nat) : Int), rfl, rfl, rfl, rfl, by omega, List.length_map _, by omega, rfl, by omega, fun e11 h11 => ?_⟩
 refine ⟨?_, rfl, ?_, ?_, trivial⟩ <;> (first | rfl | (rw [pick_at (by assumption)] <;> rfl))

abbrev k_d_new (l : List Int) : List AV × List (Nat × Rs) × AV × List (Nat × Rs) := ([.p none (.sl 5 1 (l.map byD))], [], .ptr 0 0, [(0, .box 84 [.p none (.sl 5 1 (l.map byD)), vI (((curN l).i : Nat) : Int), vI ((curN l).h)])])
abbrev K_d_new (l : List Int) : Prop := Con2 Try.prog 38 (k_d_new l).1 (k_d_new l).2.1 (k_d_new l).2.2.1 (k_d_new l).2.2.2
theorem d_new (l : List Int) (hl : l.length ≤ 1048576) : K_d_new l := by
 refine con2_y tbOk mixedW Try.func38 (by kernel_rfl) (by kernel_rfl) (.len l.length <| .loop Nat (Q1 Nat) [3, 4, 8, 9, 10, 11, 12, 13, 14, 15, 16, 17, 18, 19, 20, 21, 22, 23, 24, 25, 26, 27] [] (fun k => [(4, vI (k : Int)), (3, vI (hashD l k))]) (fun k => []) (fun k => k ≤ l.length ∧ k ≤ 4000) (fun k => 4000 - k) (fun k => .len l.length <| .br (.lit <| .lit <| .br (.raw <| .elem _ byD l (fun e22 => .raw <| .raw <| .raw <| .back [])) (.fin [(0, 3100)])) (.fin [(0, 3100)]))) (p := Lm byD l ∧ (inR ((10101 : Int) + ((l.length : Nat) : Int)) ∧ ((∃ (k : Nat), (0 : Int) = (k : Int) ∧ ((10101 : Int) + ((l.length : Nat) : Int)) = (hashD l k) ∧ k ≤ l.length ∧ k ≤ 4000) ∧ ∀ (k : Nat), (k ≤ l.length ∧ k ≤ 4000) → Lm byD l ∧ (((decide ((k : Int) < ((l.length : Nat) : Int))) = true → ((decide ((k : Int) < (4000 : Int))) = true → 0 ≤ (k : Int) ∧ Em byD l k fun e22 => inR ((k : Int) + (1 : Int)) ∧ ∃ (k' : Nat), ((k : Int) + (1 : Int)) = (k' : Int) ∧ (bitI .and .i64 (IntKind.i64.wrap ((IntKind.i64.wrap ((IntKind.i64.wrap ((hashD l k) * (131 : Int))) + (IntKind.i64.wrap e22))) + (7 : Int))) (1073741823 : Int)) = (hashD l k') ∧ (k' ≤ l.length ∧ k' ≤ 4000) ∧ 4000 - k' < 4000 - k) ∧ ((decide ((k : Int) < (4000 : Int))) = false → l.map byD = l.map byD ∧ (0 : Int) = (((curN l).i : Nat) : Int) ∧ (hashD l k) = ((curN l).h) ∧ True)) ∧ ((decide ((k : Int) < ((l.length : Nat) : Int))) = false → l.map byD = l.map byD ∧ (0 : Int) = (((curN l).i : Nat) : Int) ∧ (hashD l k) = ((curN l).h) ∧ True))))) (by kernel_rfl) ?_
 refine ⟨List.length_map _, ⟨by omega, by omega⟩, ⟨0, (by first | rfl | (rw [hash_at h22]; done)), (by first | rfl | (rw [hash_at h22]; done)), Nat.zero_le _, Nat.zero_le _⟩, fun k ⟨hk, hk2⟩ => ?_⟩
 refine ⟨List.length_map _, fun g12 => ?_, fun g12 => ?_⟩
 ·replace g12 := yq g12
  refine ⟨fun c0 => ?_, fun c0 => ?_⟩
  ·replace c0 := yq c0
   refine ⟨by omega, rfl, by omega, fun e22 h22 => ?_⟩
   refine ⟨⟨by omega, by omega⟩, ?_⟩
   exact ⟨k + 1, (by first | rfl | (rw [hash_at h22]; done)), (by first | rfl | (rw [hash_at h22]; done)), ⟨by omega, by omega⟩, by omega⟩
  ·replace c0 := nq c0
   refine ⟨rfl, ?_, ?_, trivial⟩ <;> (first | rfl | (rw [curN, show min l.length 4000 = k by omega] <;> rfl))
 ·replace g12 := nq g12
  refine ⟨rfl, ?_, ?_, trivial⟩ <;> (first | rfl | (rw [curN, show min l.length 4000 = k by omega] <;> rfl))
end Go.Proofs.Ytepphdhnkaiamaa
