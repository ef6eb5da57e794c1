/- Eight bytes read: the program and the document read the same instruction. -/
import Derived.Test.YtdlmkfnjljlmgaaPg
namespace Go.Y
open Go.RowKit Go.V Go.X Go.Proofs

theorem or32 (a b c d : Int) (ha : 0 ≤ a ∧ a ≤ 255) (hb : 0 ≤ b ∧ b ≤ 255) (hc : 0 ≤ c ∧ c ≤ 255) (hd : 0 ≤ d ∧ d ≤ 255) : bOr .i32 (bOr .i32 (bOr .i32 (sShl .i32 (IntKind.i32.wrap a) 24) (sShl .i32 (IntKind.i32.wrap b) 16)) (sShl .i32 (IntKind.i32.wrap c) 8)) (IntKind.i32.wrap d) = if 16777216 * a + 65536 * b + 256 * c + d ≥ 2147483648 then 16777216 * a + 65536 * b + 256 * c + d - 4294967296 else 16777216 * a + 65536 * b + 256 * c + d := by
  have w : ∀ x : Int, 0 ≤ x ∧ x < 2147483648 → IntKind.i32.wrap x = x := fun x h => by unfold IntKind.wrap; simp [IntKind.bits, IntKind.signed]; omega
  have w' : ∀ x : Int, 0 ≤ x ∧ x < 4294967296 → IntKind.i32.wrap x = if x ≥ 2147483648 then x - 4294967296 else x := fun x h => by unfold IntKind.wrap; simp [IntKind.bits, IntKind.signed]; omega
  have e1 : sShl .i32 a 24 = IntKind.i32.wrap (a * 16777216) := rfl
  have e2 : sShl .i32 b 16 = IntKind.i32.wrap (b * 65536) := rfl
  have e3 : sShl .i32 c 8 = IntKind.i32.wrap (c * 256) := rfl
  have m : ∀ x : Int, 0 ≤ x ∧ x < 4294967296 → IntKind.i32.wrap x % 4294967296 = x := fun x h => by rw [w' x h]; split <;> omega
  rw [w a (by omega), w b (by omega), w c (by omega), w d (by omega), e1, e2, e3, w (b * 65536) (by omega), w (c * 256) (by omega)]
  rw [orAdd .i32 24 (IntKind.i32.wrap (a * 16777216)) (b * 65536) (by decide) (by have := m (a * 16777216) (by omega); show IntKind.i32.wrap (a * 16777216) % 16777216 = 0; omega) (by omega), show (2 : Int) ^ IntKind.i32.bits = 4294967296 from rfl, m _ (by omega)]
  rw [orAdd .i32 16 (IntKind.i32.wrap (a * 16777216 + b * 65536)) (c * 256) (by decide) (by have := m (a * 16777216 + b * 65536) (by omega); show IntKind.i32.wrap (a * 16777216 + b * 65536) % 65536 = 0; omega) (by omega), show (2 : Int) ^ IntKind.i32.bits = 4294967296 from rfl, m _ (by omega)]
  rw [orAdd .i32 8 (IntKind.i32.wrap (a * 16777216 + b * 65536 + c * 256)) d (by decide) (by have := m (a * 16777216 + b * 65536 + c * 256) (by omega); show IntKind.i32.wrap (a * 16777216 + b * 65536 + c * 256) % 256 = 0; omega) (by omega), show (2 : Int) ^ IntKind.i32.bits = 4294967296 from rfl, m _ (by omega)]
  rw [w' _ (by omega)]
  split <;> split <;> omega
theorem and31 : ∀ o : Fin 256, bAnd .u8 (o.val : Int) 31 = (o.val : Int) % 32 := by decide +kernel
theorem and15 : ∀ o : Fin 256, bAnd .u8 (o.val : Int) 15 = (o.val : Int) % 16 := by decide +kernel
theorem and1 : ∀ o : Fin 256, bAnd .u8 (o.val : Int) 1 = (o.val : Int) % 2 := by decide +kernel
theorem a31 {x : Int} (h : 0 ≤ x ∧ x ≤ 255) : bAnd .u8 x 31 = x % 32 := by obtain ⟨o, rfl⟩ := ofFin 256 (x := x) (by omega); exact and31 o
theorem a15 {x : Int} (h : 0 ≤ x ∧ x ≤ 255) : bAnd .u8 x 15 = x % 16 := by obtain ⟨o, rfl⟩ := ofFin 256 (x := x) (by omega); exact and15 o
theorem a1 {x : Int} (h : 0 ≤ x ∧ x ≤ 255) : bAnd .u8 x 1 = x % 2 := by obtain ⟨o, rfl⟩ := ofFin 256 (x := x) (by omega); exact and1 o
theorem sh6 (x : Int) : sShr .u8 x 6 = x / 64 := shr _ _ _ 6 rfl
theorem sh5 (x : Int) : sShr .u8 x 5 = x / 32 := shr _ _ _ 5 rfl
theorem sh4 (x : Int) : sShr .u8 x 4 = x / 16 := shr _ _ _ 4 rfl
def pow4 (u : Int) : Int := if u = 0 then 1 else if u = 1 then 2 else if u = 2 then 4 else 8
theorem pow_tab : ∀ u : Fin 4, sShl .i64 1 (u.val : Int) = pow4 (u.val : Int) := by decide +kernel
theorem pow_p {u : Int} (h : 0 ≤ u ∧ u ≤ 3) : sShl .i64 1 u = pow4 u := by obtain ⟨o, rfl⟩ := ofFin 4 (x := u) (by omega); exact pow_tab o
def cand (z : Bool) (b0 b1 b2 b3 b4 b5 b6 b7 : Int) : Ins :=
  ⟨b0 % 32, z, b1 / 16, b1 % 16, b0 / 32 % 2 == 1, if 256 * b2 + b3 ≥ 32768 then 256 * b2 + b3 - 65536 else 256 * b2 + b3,
   if 16777216 * b4 + 65536 * b5 + 256 * b6 + b7 ≥ 2147483648 then 16777216 * b4 + 65536 * b5 + 256 * b6 + b7 - 4294967296 else 16777216 * b4 + 65536 * b5 + 256 * b6 + b7, if b0 % 32 = 14 ∨ b0 % 32 = 15 then pow4 (b0 / 64) else 0⟩
def Byte (x : Int) : Prop := 0 ≤ x ∧ x ≤ 255
theorem fields32 (x : Int) : ∃ y, ins_fields BIG x = some y ∧ (bAnd .i64 y 32 != 0) = decide (x = 14 ∨ x = 15) := by
  rw [fields_p]
  repeat' split
  all_goals refine ⟨_, rfl, ?_⟩
  all_goals first | (rw [show decide (x = 14 ∨ x = 15) = false from by simp; omega]; decide) | (rw [show decide (x = 14 ∨ x = 15) = true from by simp; omega]; decide)
theorem get8_p (b0 b1 b2 b3 b4 b5 b6 b7 : Int) (h0 : Byte b0) (h1 : Byte b1) (h2 : Byte b2) (h3 : Byte b3) (h4 : Byte b4) (h5 : Byte b5) (h6 : Byte b6) (h7 : Byte b7) :
    ins_get BIG [b0, b1, b2, b3, b4, b5, b6, b7] = some (cand (!decide (b0 % 32 = 14 ∨ b0 % 32 = 15) && b0 / 64 == 1) b0 b1 b2 b3 b4 b5 b6 b7) := by
  unfold Byte at *
  obtain ⟨y, hy, hs⟩ := fields32 (b0 % 32)
  have w : ∀ x : Int, -2147483648 ≤ x ∧ x ≤ 2147483647 → IntKind.i64.wrap x = x := fun x h => wrap64 (by omega)
  rw [get8, a31 h0, hy, obind_of, hs, or16 b2 b3 h2 h3, or32 b4 b5 b6 b7 h4 h5 h6 h7, sh6, sh5, sh4, a15 h1, a1 (x := b0 / 32) (by omega)]
  rw [w (b1 / 16) (by omega), w (b1 % 16) (by omega), w (if 256 * b2 + b3 ≥ 32768 then 256 * b2 + b3 - 65536 else 256 * b2 + b3) (by split <;> omega), w (if 16777216 * b4 + 65536 * b5 + 256 * b6 + b7 ≥ 2147483648 then 16777216 * b4 + 65536 * b5 + 256 * b6 + b7 - 4294967296 else 16777216 * b4 + 65536 * b5 + 256 * b6 + b7) (by split <;> omega), forkB_if]
  unfold cand
  by_cases hz : b0 % 32 = 14 ∨ b0 % 32 = 15
  · rw [decide_eq_true hz, if_pos rfl, if_neg (by omega), if_pos hz, pow_p (by omega)]; rfl
  · rw [decide_eq_false hz, if_neg (by simp), if_neg hz]; rfl
end Go.Y
