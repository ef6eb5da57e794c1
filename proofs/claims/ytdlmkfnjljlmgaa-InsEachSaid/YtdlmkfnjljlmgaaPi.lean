/- Eight bytes read, as the document reads them. -/
import Derived.Test.YtdlmkfnjljlmgaaPh
namespace Go.Y
open Go.RowKit Go.V Go.X Go.Proofs

theorem u8inj {x y : Int} (hx : Byte x) (hy : Byte y) : UInt8.ofNat x.toNat = UInt8.ofNat y.toNat ↔ x = y := by
  unfold Byte at hx hy
  constructor
  · intro h
    have := congrArg UInt8.toNat h
    simp only [UInt8.toNat_ofNat'] at this
    omega
  · rintro rfl; rfl
def goodB (i : Ins) (b : List Int) : Bool := rightP i && decide (putP i = b)
theorem putP_byte (i : Ins) (h : Fit i) : ∀ x ∈ putP i, Byte x := by
  have := h.op; have := h.dst; have := h.src; have := up_rng i
  intro x hx
  unfold putP at hx
  simp only [List.mem_cons, List.not_mem_nil, or_false] at hx
  unfold Byte
  rcases hx with rfl | rfl | rfl | rfl | rfl | rfl | rfl | rfl <;> first | omega | (split <;> omega)
theorem same8 (i : Ins) (h : Fit i) (b0 b1 b2 b3 b4 b5 b6 b7 : Int) (h0 : Byte b0) (h1 : Byte b1) (h2 : Byte b2) (h3 : Byte b3) (h4 : Byte b4) (h5 : Byte b5) (h6 : Byte b6) (h7 : Byte b7) :
    (ByteArray.toList (bytesStr (putP i)) == ByteArray.toList (bytesStr [b0, b1, b2, b3, b4, b5, b6, b7])) = decide (putP i = [b0, b1, b2, b3, b4, b5, b6, b7]) := by
  have hp := putP_byte i h
  unfold putP at hp ⊢
  simp only [List.mem_cons, List.not_mem_nil, or_false, forall_eq_or_imp, forall_eq] at hp
  obtain ⟨p0, p1, p2, p3, p4, p5, p6, p7⟩ := hp
  rw [list8, list8, Bool.eq_iff_iff, beq_iff_eq, decide_eq_true_iff]
  simp only [List.cons.injEq, u8inj p0 h0, u8inj p1 h1, u8inj p2 h2, u8inj p3 h3, u8inj p4 h4, u8inj p5 h5, u8inj p6 h6, u8inj p7 h7]
section
variable (b0 b1 b2 b3 b4 b5 b6 b7 : Int) (h0 : Byte b0) (h1 : Byte b1) (h2 : Byte b2) (h3 : Byte b3) (h4 : Byte b4) (h5 : Byte b5) (h6 : Byte b6) (h7 : Byte b7)
  (z0 : Int) (z1 : Bool) (z2 z3 : Int) (z4 : Bool) (z5 z6 z7 : Int) (c0 : Int) (c1 : Bool) (c2 c3 : Int) (c4 : Bool) (c5 c6 c7 : Int)
include h0 h1 h2 h3 h4 h5 h6 h7
theorem J2_r (n : Nat) : ref06_one_J2 (n + 1) [b0, b1, b2, b3, b4, b5, b6, b7] z0 z1 z2 z3 z4 z5 z6 z7 c0 c1 c2 c3 c4 c5 c6 c7 = some (⟨c0, c1, c2, c3, c4, c5, c6, c7⟩, goodB ⟨c0, c1, c2, c3, c4, c5, c6, c7⟩ [b0, b1, b2, b3, b4, b5, b6, b7]) := by
  rw [ref06_one_J2_eq, right_r, obind_of, forkB_if]
  unfold goodB
  by_cases hr : rightP ⟨c0, c1, c2, c3, c4, c5, c6, c7⟩ = true
  · rw [if_pos hr, bytes_r _ (fit _ hr), obind_of, same8 _ (fit _ hr) _ _ _ _ _ _ _ _ h0 h1 h2 h3 h4 h5 h6 h7, hr]; rfl
  · rw [if_neg hr, Bool.eq_false_iff.2 hr]; rfl
theorem J3_r (n : Nat) (u : Int) (hu : 0 ≤ u ∧ u ≤ 3) (z : Bool) : ref06_one_J3 (n + 6) [b0, b1, b2, b3, b4, b5, b6, b7] u z z0 z1 z2 z3 z4 z5 z6 z7 c0 c1 c2 c3 c4 c5 c6 c7 = some (⟨c0, if z = true then c1 else u % 2 == 1, c2, c3, c4, c5, c6, if z = true then pow4 u else c7⟩, goodB ⟨c0, if z = true then c1 else u % 2 == 1, c2, c3, c4, c5, c6, if z = true then pow4 u else c7⟩ [b0, b1, b2, b3, b4, b5, b6, b7]) := by
  rw [ref06_one_J3_eq, forkB_if]
  by_cases hz : z = true
  · simp only [if_pos hz]
    have hc : u = 0 ∨ u = 1 ∨ u = 2 ∨ u = 3 := by omega
    have w1 : IntKind.i64.wrap (0 + 1) = 1 := rfl
    have w2 : IntKind.i64.wrap (1 + 1) = 2 := rfl
    have w3 : IntKind.i64.wrap (2 + 1) = 3 := rfl
    have m1 : IntKind.i64.wrap (2 * 1) = 2 := rfl
    have m2 : IntKind.i64.wrap (2 * 2) = 4 := rfl
    have m3 : IntKind.i64.wrap (2 * 4) = 8 := rfl
    rcases hc with rfl | rfl | rfl | rfl
    · rw [ref06_one_L4_eq, decide_eq_false (by decide), forkB_false]
      exact J2_r _ _ _ _ _ _ _ _ h0 h1 h2 h3 h4 h5 h6 h7 _ _ _ _ _ _ _ _ _ _ _ _ _ _ _ _ _
    · rw [ref06_one_L4_eq, decide_eq_true (by decide), forkB_true, w1, m1, ref06_one_L4_eq, decide_eq_false (by decide), forkB_false]
      exact J2_r _ _ _ _ _ _ _ _ h0 h1 h2 h3 h4 h5 h6 h7 _ _ _ _ _ _ _ _ _ _ _ _ _ _ _ _ _
    · rw [ref06_one_L4_eq, decide_eq_true (by decide), forkB_true, w1, m1, ref06_one_L4_eq, decide_eq_true (by decide), forkB_true, w2, m2, ref06_one_L4_eq, decide_eq_false (by decide), forkB_false]
      exact J2_r _ _ _ _ _ _ _ _ h0 h1 h2 h3 h4 h5 h6 h7 _ _ _ _ _ _ _ _ _ _ _ _ _ _ _ _ _
    · rw [ref06_one_L4_eq, decide_eq_true (by decide), forkB_true, w1, m1, ref06_one_L4_eq, decide_eq_true (by decide), forkB_true, w2, m2, ref06_one_L4_eq, decide_eq_true (by decide), forkB_true, w3, m3, ref06_one_L4_eq, decide_eq_false (by decide), forkB_false]
      exact J2_r _ _ _ _ _ _ _ _ h0 h1 h2 h3 h4 h5 h6 h7 _ _ _ _ _ _ _ _ _ _ _ _ _ _ _ _ _
  · simp only [if_neg hz]
    rw [show u.tmod 2 = u % 2 from Int.tmod_eq_emod_of_nonneg hu.1]
    exact J2_r _ _ _ _ _ _ _ _ h0 h1 h2 h3 h4 h5 h6 h7 _ _ _ _ _ _ _ _ _ _ _ _ _ _ _ _ _
theorem one8_r : ref06_one BIG [b0, b1, b2, b3, b4, b5, b6, b7] = some (cand (!decide (b0 % 32 = 14 ∨ b0 % 32 = 15) && b0 / 64 % 2 == 1) b0 b1 b2 b3 b4 b5 b6 b7, goodB (cand (!decide (b0 % 32 = 14 ∨ b0 % 32 = 15) && b0 / 64 % 2 == 1) b0 b1 b2 b3 b4 b5 b6 b7) [b0, b1, b2, b3, b4, b5, b6, b7]) := by
  have j1 : ∀ (n : Nat) (z0 : Int) (z1 : Bool) (z2 z3 : Int) (z4 : Bool) (z5 z6 z7 c2 c3 : Int) (c4 : Bool) (c5 y : Int), ref06_one_J1 (n + 7) [b0, b1, b2, b3, b4, b5, b6, b7] z0 z1 z2 z3 z4 z5 z6 z7 (b0 % 32) false c2 c3 c4 c5 y 0 =
      some (⟨b0 % 32, !decide (b0 % 32 = 14 ∨ b0 % 32 = 15) && b0 / 64 % 2 == 1, c2, c3, c4, c5, y, if b0 % 32 = 14 ∨ b0 % 32 = 15 then pow4 (b0 / 64) else 0⟩, goodB ⟨b0 % 32, !decide (b0 % 32 = 14 ∨ b0 % 32 = 15) && b0 / 64 % 2 == 1, c2, c3, c4, c5, y, if b0 % 32 = 14 ∨ b0 % 32 = 15 then pow4 (b0 / 64) else 0⟩ [b0, b1, b2, b3, b4, b5, b6, b7]) := by
    intro n z0 z1 z2 z3 z4 z5 z6 z7 c2 c3 c4 c5 y
    have h0' := h0
    unfold Byte at h0'
    have e : IntKind.i64.wrap ((IntKind.i64.wrap b0).tdiv 64) = b0 / 64 := by
      rw [wrap64 (x := b0) (by omega), Int.tdiv_eq_ediv_of_nonneg h0'.1, wrap64 (by omega)]
    rw [one8J1, e, forkB_if]
    have J := fun z => J3_r b0 b1 b2 b3 b4 b5 b6 b7 h0 h1 h2 h3 h4 h5 h6 h7 z0 z1 z2 z3 z4 z5 z6 z7 (b0 % 32) false c2 c3 c4 c5 y 0 n (b0 / 64) (by omega) z
    rw [J, J]
    by_cases a : b0 % 32 = 14
    · rw [if_pos (by rw [a]; rfl), decide_eq_true (Or.inl a), if_pos (Or.inl a)]; rfl
    · rw [if_neg (by simpa using a)]
      by_cases a' : b0 % 32 = 15
      · rw [decide_eq_true (Or.inr a'), if_pos (Or.inr a'), a']; rfl
      · rw [decide_eq_false (by omega), if_neg (c := b0 % 32 = 14 ∨ b0 % 32 = 15) (by omega), beq_eq_false_iff_ne.2 a']; rfl
  have q0 := h0; have q1 := h1; have q2 := h2; have q3 := h3; have q4 := h4; have q5 := h5; have q6 := h6; have q7 := h7
  unfold Byte at q0 q1 q2 q3 q4 q5 q6 q7
  have o : IntKind.i64.wrap ((IntKind.i64.wrap ((256 : Int) * (IntKind.i64.wrap b2))) + (IntKind.i64.wrap b3)) = 256 * b2 + b3 := by simp (disch := omega) only [wrap64]
  have m : IntKind.i64.wrap ((IntKind.i64.wrap ((IntKind.i64.wrap ((IntKind.i64.wrap ((16777216 : Int) * (IntKind.i64.wrap b4))) + (IntKind.i64.wrap ((65536 : Int) * (IntKind.i64.wrap b5))))) + (IntKind.i64.wrap ((256 : Int) * (IntKind.i64.wrap b6))))) + (IntKind.i64.wrap b7)) = 16777216 * b4 + 65536 * b5 + 256 * b6 + b7 := by simp (disch := omega) only [wrap64]
  have j0 : ∀ (n : Nat) (z0 : Int) (z1 : Bool) (z2 z3 : Int) (z4 : Bool) (z5 z6 z7 c2 c3 : Int) (c4 : Bool) (c5 : Int), ref06_one_J0 (n + 8) [b0, b1, b2, b3, b4, b5, b6, b7] z0 z1 z2 z3 z4 z5 z6 z7 (b0 % 32) false c2 c3 c4 c5 0 0 =
      ref06_one_J1 (n + 7) [b0, b1, b2, b3, b4, b5, b6, b7] z0 z1 z2 z3 z4 z5 z6 z7 (b0 % 32) false c2 c3 c4 c5 (if 16777216 * b4 + 65536 * b5 + 256 * b6 + b7 ≥ 2147483648 then 16777216 * b4 + 65536 * b5 + 256 * b6 + b7 - 4294967296 else 16777216 * b4 + 65536 * b5 + 256 * b6 + b7) 0 := by
    intro n z0 z1 z2 z3 z4 z5 z6 z7 c2 c3 c4 c5
    rw [one8J0, m, forkB_if]
    by_cases h : 16777216 * b4 + 65536 * b5 + 256 * b6 + b7 ≥ 2147483648
    · rw [if_pos (by simpa using h), if_pos h, wrap64 (by omega)]
    · rw [if_neg (by simpa using h), if_neg h]
  have e0 : b0.tmod 32 = b0 % 32 := Int.tmod_eq_emod_of_nonneg q0.1
  have e1 : IntKind.i64.wrap ((IntKind.i64.wrap b1).tdiv (16 : Int)) = b1 / 16 := by rw [wrap64 (x := b1) (by omega), Int.tdiv_eq_ediv_of_nonneg q1.1, wrap64 (by omega)]
  have e2 : (IntKind.i64.wrap b1).tmod (16 : Int) = b1 % 16 := by rw [wrap64 (x := b1) (by omega), Int.tmod_eq_emod_of_nonneg q1.1]
  have e3 : (IntKind.u8.wrap (b0.tdiv (32 : Int))).tmod (2 : Int) = b0 / 32 % 2 := by rw [Int.tdiv_eq_ediv_of_nonneg q0.1, u8w, Int.tmod_eq_emod_of_nonneg (by omega)]; omega
  rw [one8, o, e0, e1, e2, e3, forkB_if, j0, j0, j1, j1]
  unfold cand
  by_cases h : 256 * b2 + b3 ≥ 32768
  · rw [if_pos (by simpa using h), if_pos h, wrap64 (by omega)]
  · rw [if_neg (by simpa using h), if_neg h]
end
end Go.Y
