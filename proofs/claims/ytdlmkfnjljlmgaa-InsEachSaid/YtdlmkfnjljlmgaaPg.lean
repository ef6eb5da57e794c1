/- Eight bytes read. -/
import Derived.Test.YtdlmkfnjljlmgaaPd
namespace Go.Y
open Go.RowKit Go.V Go.X Go.Proofs

theorem get8 (b0 b1 b2 b3 b4 b5 b6 b7 : Int) : ins_get BIG [b0, b1, b2, b3, b4, b5, b6, b7] =
  ((((((((((obind (ins_fields BIG (bAnd .u8 b0 (31 : Int))) fun y1 =>
  forkB ((bAnd .i64 y1 (32 : Int)) != (0 : Int))
  ((if sShr .u8 b0 (6 : Int) < 0 then none else (some (⟨bAnd .u8 b0 (31 : Int), false, IntKind.i64.wrap (sShr .u8 b1 (4 : Int)), IntKind.i64.wrap (bAnd .u8 b1 (15 : Int)), (bAnd .u8 (sShr .u8 b0 (5 : Int)) (1 : Int)) == (1 : Int), IntKind.i64.wrap (bOr .i16 (sShl .i16 (IntKind.i16.wrap b2) (8 : Int)) (IntKind.i16.wrap b3)), IntKind.i64.wrap (bOr .i32 (bOr .i32 (bOr .i32 (sShl .i32 (IntKind.i32.wrap b4) (24 : Int)) (sShl .i32 (IntKind.i32.wrap b5) (16 : Int))) (sShl .i32 (IntKind.i32.wrap b6) (8 : Int))) (IntKind.i32.wrap b7)), sShl .i64 (1 : Int) (sShr .u8 b0 (6 : Int))⟩ : Ins))))
  ((some (⟨bAnd .u8 b0 (31 : Int), (sShr .u8 b0 (6 : Int)) == (1 : Int), IntKind.i64.wrap (sShr .u8 b1 (4 : Int)), IntKind.i64.wrap (bAnd .u8 b1 (15 : Int)), (bAnd .u8 (sShr .u8 b0 (5 : Int)) (1 : Int)) == (1 : Int), IntKind.i64.wrap (bOr .i16 (sShl .i16 (IntKind.i16.wrap b2) (8 : Int)) (IntKind.i16.wrap b3)), IntKind.i64.wrap (bOr .i32 (bOr .i32 (bOr .i32 (sShl .i32 (IntKind.i32.wrap b4) (24 : Int)) (sShl .i32 (IntKind.i32.wrap b5) (16 : Int))) (sShl .i32 (IntKind.i32.wrap b6) (8 : Int))) (IntKind.i32.wrap b7)), (0 : Int)⟩ : Ins)))))))))))))  := by kernel_rfl
theorem one8 (b0 b1 b2 b3 b4 b5 b6 b7 : Int) : ref06_one BIG [b0, b1, b2, b3, b4, b5, b6, b7] =
  ((((((forkB (decide ((IntKind.i64.wrap ((IntKind.i64.wrap ((256 : Int) * (IntKind.i64.wrap b2))) + (IntKind.i64.wrap b3))) ≥ (32768 : Int)))
  (ref06_one_J0 BIG [b0, b1, b2, b3, b4, b5, b6, b7] (0 : Int) false (0 : Int) (0 : Int) false (0 : Int) (0 : Int) (0 : Int) (b0.tmod (32 : Int)) false (IntKind.i64.wrap ((IntKind.i64.wrap b1).tdiv (16 : Int))) ((IntKind.i64.wrap b1).tmod (16 : Int)) (((IntKind.u8.wrap (b0.tdiv (32 : Int))).tmod (2 : Int)) == (1 : Int)) (IntKind.i64.wrap ((IntKind.i64.wrap ((IntKind.i64.wrap ((256 : Int) * (IntKind.i64.wrap b2))) + (IntKind.i64.wrap b3))) - (65536 : Int))) (0 : Int) (0 : Int))
  (ref06_one_J0 BIG [b0, b1, b2, b3, b4, b5, b6, b7] (0 : Int) false (0 : Int) (0 : Int) false (0 : Int) (0 : Int) (0 : Int) (b0.tmod (32 : Int)) false (IntKind.i64.wrap ((IntKind.i64.wrap b1).tdiv (16 : Int))) ((IntKind.i64.wrap b1).tmod (16 : Int)) (((IntKind.u8.wrap (b0.tdiv (32 : Int))).tmod (2 : Int)) == (1 : Int)) (IntKind.i64.wrap ((IntKind.i64.wrap ((256 : Int) * (IntKind.i64.wrap b2))) + (IntKind.i64.wrap b3))) (0 : Int) (0 : Int))))))))  := by kernel_rfl
theorem one8J0 (n : Nat) (b0 b1 b2 b3 b4 b5 b6 b7 : Int) (z0 : Int) (z1 : Bool) (z2 z3 : Int) (z4 : Bool) (z5 z6 z7 : Int) (c0 : Int) (c1 : Bool) (c2 c3 : Int) (c4 : Bool) (c5 c6 c7 : Int) : ref06_one_J0 (n + 1) [b0, b1, b2, b3, b4, b5, b6, b7] z0 z1 z2 z3 z4 z5 z6 z7 c0 c1 c2 c3 c4 c5 c6 c7 =
  ((((forkB (decide ((IntKind.i64.wrap ((IntKind.i64.wrap ((IntKind.i64.wrap ((IntKind.i64.wrap ((16777216 : Int) * (IntKind.i64.wrap b4))) + (IntKind.i64.wrap ((65536 : Int) * (IntKind.i64.wrap b5))))) + (IntKind.i64.wrap ((256 : Int) * (IntKind.i64.wrap b6))))) + (IntKind.i64.wrap b7))) ≥ (2147483648 : Int)))
  (ref06_one_J1 n [b0, b1, b2, b3, b4, b5, b6, b7] z0 z1 z2 z3 z4 z5 z6 z7 c0 c1 c2 c3 c4 c5 (IntKind.i64.wrap ((IntKind.i64.wrap ((IntKind.i64.wrap ((IntKind.i64.wrap ((IntKind.i64.wrap ((16777216 : Int) * (IntKind.i64.wrap b4))) + (IntKind.i64.wrap ((65536 : Int) * (IntKind.i64.wrap b5))))) + (IntKind.i64.wrap ((256 : Int) * (IntKind.i64.wrap b6))))) + (IntKind.i64.wrap b7))) - (4294967296 : Int))) c7)
  (ref06_one_J1 n [b0, b1, b2, b3, b4, b5, b6, b7] z0 z1 z2 z3 z4 z5 z6 z7 c0 c1 c2 c3 c4 c5 (IntKind.i64.wrap ((IntKind.i64.wrap ((IntKind.i64.wrap ((IntKind.i64.wrap ((16777216 : Int) * (IntKind.i64.wrap b4))) + (IntKind.i64.wrap ((65536 : Int) * (IntKind.i64.wrap b5))))) + (IntKind.i64.wrap ((256 : Int) * (IntKind.i64.wrap b6))))) + (IntKind.i64.wrap b7))) c7)))))  := by kernel_rfl
theorem one8J1 (n : Nat) (b0 b1 b2 b3 b4 b5 b6 b7 : Int) (z0 : Int) (z1 : Bool) (z2 z3 : Int) (z4 : Bool) (z5 z6 z7 : Int) (c0 : Int) (c1 : Bool) (c2 c3 : Int) (c4 : Bool) (c5 c6 c7 : Int) : ref06_one_J1 (n + 1) [b0, b1, b2, b3, b4, b5, b6, b7] z0 z1 z2 z3 z4 z5 z6 z7 c0 c1 c2 c3 c4 c5 c6 c7 =
  (forkB (c0 == (14 : Int))
  (ref06_one_J3 n [b0, b1, b2, b3, b4, b5, b6, b7] (IntKind.i64.wrap ((IntKind.i64.wrap b0).tdiv (64 : Int))) true z0 z1 z2 z3 z4 z5 z6 z7 c0 c1 c2 c3 c4 c5 c6 c7)
  (ref06_one_J3 n [b0, b1, b2, b3, b4, b5, b6, b7] (IntKind.i64.wrap ((IntKind.i64.wrap b0).tdiv (64 : Int))) (c0 == (15 : Int)) z0 z1 z2 z3 z4 z5 z6 z7 c0 c1 c2 c3 c4 c5 c6 c7))  := by kernel_rfl
theorem list8 (b0 b1 b2 b3 b4 b5 b6 b7 : Int) : ByteArray.toList (bytesStr [b0, b1, b2, b3, b4, b5, b6, b7]) = [UInt8.ofNat b0.toNat, UInt8.ofNat b1.toNat, UInt8.ofNat b2.toNat, UInt8.ofNat b3.toNat, UInt8.ofNat b4.toNat, UInt8.ofNat b5.toNat, UInt8.ofNat b6.toNat, UInt8.ofNat b7.toNat] := by kernel_rfl
theorem orAdd (k : IntKind) (m : Nat) (x y : Int) (hm : m ≤ k.bits) (hx : x % 2 ^ m = 0) (hy : 0 ≤ y ∧ y < 2 ^ m) : bOr k x y = k.wrap (x % 2 ^ k.bits + y) := by
  unfold bOr
  congr 1
  rw [BitVec.toNat_or, BitVec.toNat_ofInt, BitVec.toNat_ofInt]
  have hp : (2 : Int) ^ m ≤ 2 ^ k.bits := by exact_mod_cast Nat.pow_le_pow_right (by decide) hm
  have hp0 : (0 : Int) < 2 ^ k.bits := Int.pow_pos (by decide)
  have h1 : y % ((2 ^ k.bits : Nat) : Int) = y := by push_cast; exact Int.emod_eq_of_lt hy.1 (by omega)
  have h2 : (x % ((2 ^ k.bits : Nat) : Int)) % 2 ^ m = 0 := by
    push_cast
    rw [Int.emod_emod_of_dvd _ ⟨2 ^ (k.bits - m), by rw [← Int.pow_add]; congr 1; omega⟩]; exact hx
  have h3 : 0 ≤ x % ((2 ^ k.bits : Nat) : Int) := Int.emod_nonneg _ (by push_cast; omega)
  rw [h1]
  push_cast at h2 h3 ⊢
  generalize x % 2 ^ k.bits = X at h2 h3 ⊢
  obtain ⟨q, hq⟩ := Int.dvd_of_emod_eq_zero h2
  have hq0 : 0 ≤ q := by
    have : (0 : Int) < 2 ^ m := Int.pow_pos (by decide)
    rcases Int.lt_or_le q 0 with h | h
    · have := Int.mul_neg_of_pos_of_neg this h; omega
    · exact h
  obtain ⟨c, rfl⟩ := Int.eq_ofNat_of_zero_le hq0
  obtain ⟨d, rfl⟩ := Int.eq_ofNat_of_zero_le hy.1
  have hd : d < 2 ^ m := by have := hy.2; exact_mod_cast this
  have hX : X.toNat = 2 ^ m * c := by rw [hq]; exact_mod_cast Int.toNat_natCast (2 ^ m * c)
  rw [hX, Int.toNat_natCast, ← Nat.two_pow_add_eq_or_of_lt hd c, hq]
  push_cast; rfl
theorem or16 (a b : Int) (ha : 0 ≤ a ∧ a ≤ 255) (hb : 0 ≤ b ∧ b ≤ 255) : bOr .i16 (sShl .i16 (IntKind.i16.wrap a) 8) (IntKind.i16.wrap b) = if 256 * a + b ≥ 32768 then 256 * a + b - 65536 else 256 * a + b := by
  have e1 : IntKind.i16.wrap a = a := by unfold IntKind.wrap; simp [IntKind.bits, IntKind.signed]; omega
  have e2 : IntKind.i16.wrap b = b := by unfold IntKind.wrap; simp [IntKind.bits, IntKind.signed]; omega
  have e3 : sShl .i16 a 8 = IntKind.i16.wrap (a * 256) := rfl
  rw [e1, e2, e3]
  have e4 : IntKind.i16.wrap (a * 256) % 256 = 0 := by unfold IntKind.wrap; simp [IntKind.bits, IntKind.signed]; omega
  rw [orAdd .i16 8 _ _ (by decide) (by simpa using e4) (by omega)]
  unfold IntKind.wrap; simp [IntKind.bits, IntKind.signed]; omega
end Go.Y
