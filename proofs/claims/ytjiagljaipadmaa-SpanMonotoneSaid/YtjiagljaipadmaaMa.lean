import Derived.Test.YtjiagljaipadmaaSz
namespace Go.V
open Go.RowKit Go.Proofs
/-- all bits below the highest of n. -/
def fillN (n : Int) : Int := if n = 0 then 0 else ((2 ^ (Nat.log2 n.toNat + 1) : Nat) : Int) - 1
theorem bv64 {x : Int} (h : IU64 x) : (BitVec.ofInt IntKind.u64.bits x).toNat = x.toNat := by
  rw [BitVec.toNat_ofInt]; simp only [IntKind.bits]; omega
theorem bAnd64 {x y : Int} (hx : IU64 x) (hy : IU64 y) : bAnd .u64 x y = ((x.toNat &&& y.toNat : Nat) : Int) := by
  unfold bAnd
  rw [BitVec.toNat_and, bv64 hx, bv64 hy, wrapU64_eq]
  have : x.toNat &&& y.toNat ≤ x.toNat := Nat.and_le_left
  omega
theorem lt64 {x : Int} (h : IU64 x) : x.toNat < 2 ^ 64 := by omega
theorem bOr64 {x y : Int} (hx : IU64 x) (hy : IU64 y) : bOr .u64 x y = ((x.toNat ||| y.toNat : Nat) : Int) := by
  unfold bOr
  rw [BitVec.toNat_or, bv64 hx, bv64 hy, wrapU64_eq]
  have := Nat.or_lt_two_pow (lt64 hx) (lt64 hy)
  omega
theorem bXor64 {x y : Int} (hx : IU64 x) (hy : IU64 y) : bXor .u64 x y = ((x.toNat ^^^ y.toNat : Nat) : Int) := by
  unfold bXor
  rw [BitVec.toNat_xor, bv64 hx, bv64 hy, wrapU64_eq]
  have := Nat.xor_lt_two_pow (lt64 hx) (lt64 hy)
  omega
theorem sShr64 {x y : Int} (hy : 0 ≤ y ∧ y ≤ 64) : sShr .u64 x y = x / 2 ^ y.toNat := by
  unfold sShr
  rw [Int.fdiv_eq_ediv_of_nonneg _ (by exact Int.le_of_lt (Int.pow_pos (by omega)))]
  congr 2
  simp only [IntKind.bits]; omega
theorem sShl64 {x y : Int} (hy : 0 ≤ y ∧ y ≤ 64) : sShl .u64 x y = (x * 2 ^ y.toNat) % 18446744073709551616 := by
  unfold sShl
  rw [wrapU64_eq]
  congr 3
  simp only [IntKind.bits]; omega
theorem mulHi (a b : Int) (ha : IU64 a) (hb : IU64 b) : (Mul64 a b).1 = (a * b) / 18446744073709551616 := by
  unfold Mul64
  simp only
  rw [sShr64 (by omega), sShr64 (by omega), bAnd64 ha (by omega), bAnd64 hb (by omega)]
  have e : ∀ x : Int, IU64 x → ((x.toNat &&& (4294967295 : Int).toNat : Nat) : Int) = x % 4294967296 := by
    intro x hx
    rw [show (4294967295 : Int).toNat = 2 ^ 32 - 1 from rfl, Nat.and_two_pow_sub_one_eq_mod]
    omega
  rw [e a ha, e b hb]
  have f : ∀ x : Int, IU64 x → sShr .u64 x 32 = x / 4294967296 := fun x hx => by rw [sShr64 (by omega)]; rfl
  rw [show (2 : Int) ^ (32 : Int).toNat = 4294967296 from rfl]
  generalize hA : a / 4294967296 = a1
  generalize hA0 : a % 4294967296 = a0
  generalize hB : b / 4294967296 = b1
  generalize hB0 : b % 4294967296 = b0
  have h1 : 0 ≤ a1 ∧ a1 ≤ 4294967295 := by omega
  have h2 : 0 ≤ a0 ∧ a0 ≤ 4294967295 := by omega
  have h3 : 0 ≤ b1 ∧ b1 ≤ 4294967295 := by omega
  have h4 : 0 ≤ b0 ∧ b0 ≤ 4294967295 := by omega
  have bd : ∀ x y : Int, (0 ≤ x ∧ x ≤ 4294967295) → (0 ≤ y ∧ y ≤ 4294967295) → 0 ≤ x * y ∧ x * y ≤ 18446744065119617025 := fun x y hx hy => ⟨Int.mul_nonneg hx.1 hy.1, Int.mul_le_mul hx.2 hy.2 hy.1 (by omega)⟩
  have p11 := bd a1 b1 h1 h3; have p10 := bd a1 b0 h1 h4; have p01 := bd a0 b1 h2 h3; have p00 := bd a0 b0 h2 h4
  have hab : a * b = (a1 * b1) * 18446744073709551616 + (a1 * b0 + a0 * b1) * 4294967296 + a0 * b0 := by
    rw [show a = a1 * 4294967296 + a0 by omega, show b = b1 * 4294967296 + b0 by omega]
    simp only [Int.add_mul, Int.mul_add]
    have c1 : a1 * 4294967296 * (b1 * 4294967296) = a1 * b1 * 18446744073709551616 := by rw [Int.mul_assoc, Int.mul_comm 4294967296, Int.mul_assoc, Int.mul_assoc]; rfl
    have c2 : a1 * 4294967296 * b0 = a1 * b0 * 4294967296 := by rw [Int.mul_assoc, Int.mul_comm 4294967296, Int.mul_assoc]
    have c3 : a0 * (b1 * 4294967296) = a0 * b1 * 4294967296 := by rw [Int.mul_assoc]
    omega
  rw [hab]
  generalize a1 * b1 = q11 at *; generalize a1 * b0 = q10 at *; generalize a0 * b1 = q01 at *; generalize a0 * b0 = q00 at *
  rw [wrapU64_eq q11, wrapU64_eq q10, wrapU64_eq q01, wrapU64_eq q00]
  rw [f (q00 % 18446744073709551616) (by omega)]
  rw [wrapU64_eq (q10 % 18446744073709551616 + _)]
  rw [f _ (by omega), bAnd64 (by omega) (by omega), e _ (by omega)]
  rw [wrapU64_eq ((q10 % 18446744073709551616 + q00 % 18446744073709551616 / 4294967296) % 18446744073709551616 % 4294967296 + _), f _ (by omega)]
  rw [wrapU64_eq, wrapU64_eq]
  omega
theorem mulLo (a b : Int) : (Mul64 a b).2 = (a * b) % 18446744073709551616 := by unfold Mul64; exact wrapU64_eq _
theorem tab0_log : ∀ i : Fin 256, tab0.getD i.val 0 = if i.val = 0 then 0 else ((Nat.log2 i.val + 1 : Nat) : Int) := by decide +kernel
theorem tab0_at {n : Nat} (h : n < 256) (h0 : n ≠ 0) : tab0.getD n 0 = ((Nat.log2 n + 1 : Nat) : Int) := by
  have := tab0_log ⟨n, h⟩
  simp only [h0, if_false] at this
  exact this
theorem log2_shift {n k : Nat} (h : n / 2 ^ k ≠ 0) : Nat.log2 n = Nat.log2 (n / 2 ^ k) + k := by
  induction k generalizing n with
  | zero => simp
  | succ k ih =>
    have e : n / 2 ^ (k + 1) = (n / 2) / 2 ^ k := by rw [Nat.pow_succ, Nat.mul_comm, Nat.div_div_eq_div_mul]
    rw [e] at h ⊢
    have h2 : 2 ≤ n := by
      apply Classical.byContradiction; intro hn
      have : n / 2 = 0 := by omega
      rw [this] at h; simp at h
    rw [Nat.log2_def, if_pos h2, ih h]; rfl
theorem Len64_eq {n : Int} (h : IU64 n) : Len64 n = if n = 0 then 0 else ((Nat.log2 n.toNat + 1 : Nat) : Int) := by
  obtain ⟨m, rfl⟩ := Int.eq_ofNat_of_zero_le h.1
  by_cases h0 : m = 0
  · subst h0; decide +kernel
  rw [if_neg (by omega)]
  have f8 : ∀ m : Nat, sShr .u64 (m : Int) 8 = ((m / 2 ^ 8 : Nat) : Int) := fun m => by rw [sShr64 (by omega)]; simp
  have f16 : ∀ m : Nat, sShr .u64 (m : Int) 16 = ((m / 2 ^ 16 : Nat) : Int) := fun m => by rw [sShr64 (by omega)]; simp
  have f32 : ∀ m : Nat, sShr .u64 (m : Int) 32 = ((m / 2 ^ 32 : Nat) : Int) := fun m => by rw [sShr64 (by omega)]; simp
  have w8 : ∀ m : Nat, m < 256 → (IntKind.u8.wrap (m : Int)).toNat = m := fun m hm => by rw [wrapU8_eq]; omega
  have key : ∀ (k : Nat), m / 2 ^ k < 256 → m / 2 ^ k ≠ 0 → ((k : Int) + tab0.getD (m / 2 ^ k) 0) = ((Nat.log2 m + 1 : Nat) : Int) := fun k h1 h2 => by
    rw [tab0_at h1 h2, log2_shift h2]
    omega
  have d : ∀ a b : Nat, m / 2 ^ a / 2 ^ b = m / 2 ^ (a + b) := fun a b => by rw [Nat.div_div_eq_div_mul, Nat.pow_add]
  unfold Len64
  simp only [f8, f16, f32, d, decide_eq_true_eq, Int.toNat_natCast]
  have p8 : m / 2 ^ 8 = m / 256 := rfl
  have p16 : m / 2 ^ 16 = m / 65536 := rfl
  have p24 : m / 2 ^ (16 + 8) = m / 16777216 := rfl
  have p32 : m / 2 ^ 32 = m / 4294967296 := rfl
  have p40 : m / 2 ^ (32 + 8) = m / 1099511627776 := rfl
  have p48 : m / 2 ^ (32 + 16) = m / 281474976710656 := rfl
  have p56 : m / 2 ^ (32 + 16 + 8) = m / 72057594037927936 := rfl
  repeat' split
  · rw [w8 _ (by omega)]; exact key 56 (by omega) (by omega)
  · rw [w8 _ (by omega)]; exact key 48 (by omega) (by omega)
  · rw [w8 _ (by omega)]; exact key 40 (by omega) (by omega)
  · rw [w8 _ (by omega)]; exact key 32 (by omega) (by omega)
  · rw [w8 _ (by omega)]; exact key 24 (by omega) (by omega)
  · rw [w8 _ (by omega)]; exact key 16 (by omega) (by omega)
  · rw [w8 _ (by omega)]; exact key 8 (by omega) (by omega)
  · have := key 0 (by omega) (by omega); rw [w8 _ (by omega)]; simpa using this
theorem fill_eq {n : Int} (h : IU64 n) : span_fill n = fillN n := by
  show IntKind.u64.wrap (sShl .u64 (1 : Int) (Len64 n) - 1) = _
  unfold fillN
  rw [Len64_eq h]
  split
  · subst_vars; rfl
  · have h1 : Nat.log2 n.toNat < 64 := (Nat.log2_lt (by omega)).2 (by omega)
    rw [sShl64 (by omega), wrapU64_eq, Int.toNat_natCast]
    by_cases h2 : Nat.log2 n.toNat + 1 = 64
    · rw [h2]; rfl
    · have h3 : 2 ^ (Nat.log2 n.toNat + 1) ≤ 2 ^ 63 := Nat.pow_le_pow_right (by decide) (by omega)
      have h4 := Nat.two_pow_pos (Nat.log2 n.toNat + 1)
      have h5 : (1 : Int) * 2 ^ (Nat.log2 n.toNat + 1) = ((2 ^ (Nat.log2 n.toNat + 1) : Nat) : Int) := by simp
      rw [h5]
      omega
/-! ### Shifts that keep the sign, bit by bit -/
/-- what a number of z bits is, moved down by s, with ones coming in, or noughts. -/
def sarN (z a s : Nat) (b : Bool) : Nat := (a >>> s) ||| (if b then (2 ^ s - 1) <<< (z - s) else 0)
theorem sarN_bit {z a s : Nat} {b : Bool} (ha : a < 2 ^ z) (hs : s < z) {k : Nat} (hk : k < z) : (sarN z a s b).testBit k = if k + s < z then a.testBit (k + s) else b := by
  unfold sarN
  rw [Nat.testBit_or, Nat.testBit_shiftRight]
  cases b with
  | false =>
    simp only [Bool.false_eq_true, if_false, Nat.zero_testBit, Bool.or_false]
    split
    · rw [Nat.add_comm]
    · exact Nat.testBit_lt_two_pow (Nat.lt_of_lt_of_le ha (Nat.pow_le_pow_right (by decide) (by omega)))
  | true =>
    simp only [if_true, Nat.testBit_shiftLeft, Nat.testBit_two_pow_sub_one]
    split
    · rw [Nat.add_comm]; have : ¬ (k ≥ z - s) := by omega
      simp [this]
    · have h1 : k ≥ z - s := by omega
      have h2 : k - (z - s) < s := by omega
      simp [h1, h2]
theorem sarN_lt {z a s : Nat} {b : Bool} (ha : a < 2 ^ z) (hs : s < z) : sarN z a s b < 2 ^ z := by
  unfold sarN
  apply Nat.or_lt_two_pow
  · exact Nat.lt_of_le_of_lt (by rw [Nat.shiftRight_eq_div_pow]; exact Nat.div_le_self _ _) ha
  · split
    · rw [Nat.shiftLeft_eq]
      have h1 : 2 ^ z = 2 ^ s * 2 ^ (z - s) := by rw [← Nat.pow_add]; congr 1; omega
      rw [h1]
      exact Nat.mul_lt_mul_of_pos_right (by have := Nat.two_pow_pos s; omega) (Nat.two_pow_pos _)
    · exact Nat.two_pow_pos _
theorem sarN_add {z a s : Nat} {b : Bool} (ha : a < 2 ^ z) (hs : s < z) : sarN z a s b = a / 2 ^ s + (if b then (2 ^ s - 1) * 2 ^ (z - s) else 0) := by
  unfold sarN
  rw [Nat.shiftRight_eq_div_pow]
  cases b with
  | false => simp
  | true =>
    simp only [if_true]
    have h1 : 2 ^ z = 2 ^ s * 2 ^ (z - s) := by rw [← Nat.pow_add]; congr 1; omega
    have h2 : a / 2 ^ s < 2 ^ (z - s) := Nat.div_lt_of_lt_mul (by rw [← h1]; exact ha)
    rw [Nat.or_comm, ← Nat.shiftLeft_add_eq_or_of_lt h2, Nat.shiftLeft_eq, Nat.add_comm]
theorem mod_two_pow_succ' (x k : Nat) : x % 2 ^ (k + 1) = x % 2 ^ k + (if x.testBit k then 2 ^ k else 0) := by
  rw [Nat.mod_pow_succ, Nat.testBit_eq_decide_div_mod_eq]
  have : x / 2 ^ k % 2 = 0 ∨ x / 2 ^ k % 2 = 1 := by omega
  rcases this with h | h <;> simp [h]
theorem or_bit {x k : Nat} (h : x < 2 ^ k) : x ||| 2 ^ k = x + 2 ^ k := by
  rw [Nat.or_comm, show (2 : Nat) ^ k = 1 <<< k from by rw [Nat.shiftLeft_eq, Nat.one_mul], ← Nat.shiftLeft_add_eq_or_of_lt h, Nat.add_comm]
theorem topBit {z a : Nat} (ha : a < 2 ^ (z + 1)) : a.testBit z = decide (2 ^ z ≤ a) := by
  rw [Nat.testBit_eq_decide_div_mod_eq]
  have h1 : a / 2 ^ z < 2 := Nat.div_lt_of_lt_mul (by rw [Nat.pow_succ] at ha; exact ha)
  by_cases h : 2 ^ z ≤ a
  · have : 1 ≤ a / 2 ^ z := (Nat.one_le_div_iff (Nat.two_pow_pos _)).2 h
    have h2 : a / 2 ^ z = 1 := by omega
    simp [h2, h]
  · have h2 : a / 2 ^ z = 0 := Nat.div_eq_of_lt (by omega)
    simp [h2, h]
theorem sar_up {z a s : Nat} (_ha : a < 2 ^ z) (hs : s < z) : ((a : Int) - (2 : Int) ^ z) / 2 ^ s = ((a / 2 ^ s : Nat) : Int) - 2 ^ (z - s) := by
  have h1 : (2 : Int) ^ z = 2 ^ (z - s) * 2 ^ s := by rw [← Int.pow_add]; congr 1; omega
  rw [h1, Int.sub_eq_add_neg, ← Int.neg_mul, Int.add_mul_ediv_right _ _ (by exact Int.ne_of_gt (Int.pow_pos (by omega)))]
  simp [Int.sub_eq_add_neg]
theorem sar_dn {z s : Nat} (hs : s < z) : ((2 ^ s - 1) * 2 ^ (z - s) : Nat) = 2 ^ z - 2 ^ (z - s) := by
  rw [Nat.sub_mul, Nat.one_mul, ← Nat.pow_add]; congr 2; omega
theorem sar32 {a s : Nat} (ha : a < 2 ^ 32) (hs : s < 32) : IntKind.u32.wrap (sShr .i32 (IntKind.i32.wrap (a : Int)) (s : Int)) = ((sarN 32 a s (a.testBit 31) : Nat) : Int) := by
  rw [sarN_add ha hs, topBit (z := 31) ha]
  unfold sShr
  rw [Int.fdiv_eq_ediv_of_nonneg _ (by exact Int.le_of_lt (Int.pow_pos (by omega))), show min (s : Int).toNat IntKind.i32.bits = s from by simp only [IntKind.bits]; omega, wrapI32_eq, wrapU32_eq]
  have hd : a / 2 ^ s ≤ a := Nat.div_le_self _ _
  by_cases h : 2 ^ 31 ≤ a
  · rw [if_pos (by omega), show (a : Int) % 4294967296 - 4294967296 = (a : Int) - (2 : Int) ^ 32 from by omega, sar_up ha hs]
    simp only [h, decide_true, if_true]
    rw [sar_dn hs]
    have h3 : 2 ^ (32 - s) ≤ 2 ^ 32 := Nat.pow_le_pow_right (by decide) (by omega)
    have h4 : (2 : Int) ^ (32 - s) = ((2 ^ (32 - s) : Nat) : Int) := by simp
    have h5 : a / 2 ^ s < 2 ^ (32 - s) := Nat.div_lt_of_lt_mul (by rw [← Nat.pow_add]; rw [show s + (32 - s) = 32 by omega]; exact ha)
    rw [h4]
    have h6 := Nat.two_pow_pos (32 - s)
    generalize 2 ^ (32 - s) = q at *
    generalize a / 2 ^ s = d at *
    omega
  · rw [if_neg (by omega), show (a : Int) % 4294967296 = (a : Int) by omega]
    simp only [h, decide_false, Bool.false_eq_true, if_false]
    have : (a : Int) / 2 ^ s = ((a / 2 ^ s : Nat) : Int) := by simp
    rw [this]; generalize a / 2 ^ s = d at *; omega
theorem sar64 {a s : Nat} (ha : a < 2 ^ 64) (hs : s < 64) : IntKind.u64.wrap (sShr .i64 (IntKind.i64.wrap (a : Int)) (s : Int)) = ((sarN 64 a s (a.testBit 63) : Nat) : Int) := by
  rw [sarN_add ha hs, topBit (z := 63) ha]
  unfold sShr
  rw [Int.fdiv_eq_ediv_of_nonneg _ (by exact Int.le_of_lt (Int.pow_pos (by omega))), show min (s : Int).toNat IntKind.i64.bits = s from by simp only [IntKind.bits]; omega, wrapI64_eq, wrapU64_eq]
  have hd : a / 2 ^ s ≤ a := Nat.div_le_self _ _
  by_cases h : 2 ^ 63 ≤ a
  · rw [if_pos (by omega), show (a : Int) % 18446744073709551616 - 18446744073709551616 = (a : Int) - (2 : Int) ^ 64 from by omega, sar_up ha hs]
    simp only [h, decide_true, if_true]
    rw [sar_dn hs]
    have h3 : 2 ^ (64 - s) ≤ 2 ^ 64 := Nat.pow_le_pow_right (by decide) (by omega)
    have h4 : (2 : Int) ^ (64 - s) = ((2 ^ (64 - s) : Nat) : Int) := by simp
    have h5 : a / 2 ^ s < 2 ^ (64 - s) := Nat.div_lt_of_lt_mul (by rw [← Nat.pow_add]; rw [show s + (64 - s) = 64 by omega]; exact ha)
    rw [h4]
    have h6 := Nat.two_pow_pos (64 - s)
    generalize 2 ^ (64 - s) = q at *
    generalize a / 2 ^ s = d at *
    omega
  · rw [if_neg (by omega), show (a : Int) % 18446744073709551616 = (a : Int) by omega]
    simp only [h, decide_false, Bool.false_eq_true, if_false]
    have : (a : Int) / 2 ^ s = ((a / 2 ^ s : Nat) : Int) := by simp
    rw [this]; generalize a / 2 ^ s = d at *; omega
/-! ### What an operator makes of spans: as the document tells -/
def mostI (nw : Bool) : Int := if nw then 4294967295 else 18446744073709551615
structure SpOk (nw : Bool) (s : TSpan) : Prop where
  lo : 0 ≤ s.Lo
  le : s.Lo ≤ s.Hi
  hi : s.Hi ≤ mostI nw
theorem SpOk.u (nw : Bool) {s : TSpan} (h : SpOk nw s) : IU64 s.Lo ∧ IU64 s.Hi := by
  have h1 := h.lo; have h2 := h.le; have h3 := h.hi
  unfold mostI at h3
  split at h3 <;> omega
theorem and_low {x : Int} (h : IU64 x) : bAnd .u64 x 4294967295 = x % 4294967296 := by
  rw [bAnd64 h (by omega), show (4294967295 : Int).toNat = 2 ^ 32 - 1 from rfl, Nat.and_two_pow_sub_one_eq_mod]
  omega
theorem and_all {x : Int} (h : IU64 x) : bAnd .u64 x 18446744073709551615 = x := by
  rw [bAnd64 h (by omega), show (18446744073709551615 : Int).toNat = 2 ^ 64 - 1 from rfl, Nat.and_two_pow_sub_one_eq_mod]
  omega
theorem shr32 {x : Int} : sShr .u64 x 32 = x / 4294967296 := by rw [sShr64 (by omega)]; rfl
theorem cut_ok {s : TSpan} {nw : Bool} (h : IU64 s.Lo ∧ IU64 s.Hi) (hle : s.Lo ≤ s.Hi) : SpOk nw (span_cut s nw) := by
  cases nw with
  | false => exact ⟨h.1.1, hle, h.2.2⟩
  | true =>
    unfold span_cut
    simp only [Bool.not_true, Bool.false_eq_true, if_false, shr32, and_low h.1, and_low h.2]
    split
    · exact ⟨by decide, by decide, by decide⟩
    · rename_i hq
      have hq : s.Lo / 4294967296 = s.Hi / 4294967296 := by simpa using hq
      refine ⟨?_, ?_, ?_⟩
      · show 0 ≤ s.Lo % 4294967296; omega
      · show s.Lo % 4294967296 ≤ s.Hi % 4294967296; omega
      · show s.Hi % 4294967296 ≤ 4294967295; omega
theorem one_iff (s : TSpan) : span_one s = decide (s.Lo = s.Hi) := by
  show ((s.Lo == s.Lo) && (s.Hi == s.Lo)) = _
  by_cases h : s.Lo = s.Hi <;> simp [h]
  exact fun e => h e.symm
theorem both_iff (w : Twork) : span_work_both w = (decide (w.a.Lo = w.a.Hi) && decide (w.b.Lo = w.b.Hi)) := by
  show (span_one w.a && span_one w.b) = _
  rw [one_iff, one_iff]
/-- two spans, cut, at work. -/
def wk (nw : Bool) (a b : TSpan) : Twork := ⟨a, b, nw, mostI nw, if nw then 32 else 64⟩
theorem over_eq (nw : Bool) (a b : TSpan) : span_over nw a b = wk nw (span_cut a nw) (span_cut b nw) := by
  cases nw <;> rfl
theorem all_eq (nw : Bool) : span_All nw = ⟨0, mostI nw⟩ := by cases nw <;> rfl
theorem optF_must {α : Type} (c : Bool) (n : α) (f : Unit → α) : optF (span_must c) n f = if c = true then f () else n := by
  cases c <;> rfl
theorem mostI_u (nw : Bool) : IU64 (mostI nw) := by cases nw <;> decide
theorem mostI_or (nw : Bool) : mostI nw = 4294967295 ∨ mostI nw = 18446744073709551615 := by cases nw <;> simp [mostI]
theorem mul_cond {nw : Bool} {p q : Int} (hp : 0 ≤ p ∧ p ≤ mostI nw) (hq : 0 ≤ q ∧ q ≤ mostI nw) :
    (((Mul64 p q).1 == 0) && decide ((Mul64 p q).2 ≤ mostI nw)) = decide (p * q ≤ mostI nw) := by
  have hm := mostI_u nw
  rw [mulHi p q ⟨hp.1, by omega⟩ ⟨hq.1, by omega⟩, mulLo]
  have h0 : 0 ≤ p * q := Int.mul_nonneg hp.1 hq.1
  generalize p * q = z at *
  rw [Bool.eq_iff_iff]
  simp only [Bool.and_eq_true, beq_iff_eq, decide_eq_true_eq]
  omega
theorem shl_cond {nw : Bool} {x c : Int} (hx : 0 ≤ x) (hc : 0 ≤ c ∧ c ≤ 63) (h : x ≤ sShr .u64 (mostI nw) c) : sShl .u64 x c = x * 2 ^ c.toNat ∧ x * 2 ^ c.toNat ≤ mostI nw := by
  rw [sShr64 (by omega)] at h
  have hp : (0 : Int) < 2 ^ c.toNat := Int.pow_pos (by omega)
  have h1 : x * 2 ^ c.toNat ≤ mostI nw := (Int.le_ediv_iff_mul_le hp).1 h
  have h2 : 0 ≤ x * 2 ^ c.toNat := Int.mul_nonneg hx (Int.le_of_lt hp)
  have hm := mostI_u nw
  refine ⟨?_, h1⟩
  rw [sShl64 (by omega)]
  omega
theorem and_most {nw : Bool} {x : Int} (h : 0 ≤ x ∧ x ≤ mostI nw) : bAnd .u64 x (mostI nw) = x := by
  have hm := mostI_u nw
  cases nw with
  | false => exact and_all ⟨h.1, by have := h.2; omega⟩
  | true =>
    have h2 : x ≤ 4294967295 := h.2
    show bAnd .u64 x 4294967295 = x
    rw [and_low ⟨h.1, by omega⟩]; omega
theorem below_eq {nw : Bool} {a b : TSpan} {x : Int} (hx : 0 ≤ x ∧ x ≤ mostI nw) : span_work_below (wk nw a b) x = decide (mostI nw < 2 * x) := by
  cases nw with
  | true =>
    have h2 : x ≤ 4294967295 := hx.2
    have e : ((bAnd .u64 (sShr .u64 x 31) 1) == 1) = decide (mostI true < 2 * x) := by
      rw [sShr64 (by omega), show (2 : Int) ^ (31 : Int).toNat = 2147483648 from rfl, bAnd64 (by omega) (by omega)]
      rw [show (1 : Int).toNat = 1 from rfl, Nat.and_one_is_mod]
      show _ = decide (4294967295 < 2 * x)
      rw [Bool.eq_iff_iff, beq_iff_eq, decide_eq_true_eq]
      omega
    exact e
  | false =>
    have h2 : x ≤ 18446744073709551615 := hx.2
    have e : ((bAnd .u64 (sShr .u64 x 63) 1) == 1) = decide (mostI false < 2 * x) := by
      rw [sShr64 (by omega), show (2 : Int) ^ (63 : Int).toNat = 9223372036854775808 from rfl, bAnd64 (by omega) (by omega)]
      rw [show (1 : Int).toNat = 1 from rfl, Nat.and_one_is_mod]
      show _ = decide (18446744073709551615 < 2 * x)
      rw [Bool.eq_iff_iff, beq_iff_eq, decide_eq_true_eq]
      omega
    exact e
theorem mixed_eq {nw : Bool} {a b s : TSpan} (hs : SpOk nw s) : span_work_mixed (wk nw a b) s = (decide (mostI nw < 2 * s.Lo) != decide (mostI nw < 2 * s.Hi)) := by
  show (span_work_below (wk nw a b) s.Lo != span_work_below (wk nw a b) s.Hi) = _
  have h1 := hs.lo; have h2 := hs.le; have h3 := hs.hi
  rw [below_eq ⟨h1, by omega⟩, below_eq ⟨by omega, h3⟩]
/-- the rules, by their numbers. -/
def rulesOf (op : Int) (w : Twork) : Option TSpan :=
  if op = 1 then span_work_add w else if op = 2 then span_work_sub w else if op = 3 then span_work_mul w else if op = 4 then some (span_work_div w) else if op = 5 then some (span_work_mod w)
  else if op = 6 then some (span_work_and w) else if op = 7 then some (span_work_or w) else if op = 8 then some (span_work_xor w) else if op = 9 then span_work_shl w else if op = 10 then some (span_work_shr w)
  else if op = 11 then span_work_sar w else if op = 12 then some (span_work_mov w) else span_work_neg w
theorem isOp_iff (op : Int) : rule0_is op = decide (1 ≤ op ∧ op ≤ 13) := by
  unfold rule0_is
  rw [Bool.eq_iff_iff]
  simp only [Bool.or_eq_true, beq_iff_eq, decide_eq_true_eq]
  omega
theorem span_Do_eq (op : Int) (nw : Bool) (a b : TSpan) : span_Do op nw a b = if (1 ≤ op ∧ op ≤ 13) ∧ a.Lo ≤ a.Hi ∧ b.Lo ≤ b.Hi then (rulesOf op (wk nw (span_cut a nw) (span_cut b nw))).getD ⟨0, mostI nw⟩ else ⟨0, mostI nw⟩ := by
  rw [span_Do.eq_1]
  simp only [isOp_iff, span_Right, letF, all_eq, over_eq]
  by_cases h : (1 ≤ op ∧ op ≤ 13) ∧ a.Lo ≤ a.Hi ∧ b.Lo ≤ b.Hi
  · rw [if_pos h, if_neg (by simp [h])]
    unfold rulesOf
    generalize wk nw (span_cut a nw) (span_cut b nw) = w
    have hh : op = 1 ∨ op = 2 ∨ op = 3 ∨ op = 4 ∨ op = 5 ∨ op = 6 ∨ op = 7 ∨ op = 8 ∨ op = 9 ∨ op = 10 ∨ op = 11 ∨ op = 12 ∨ op = 13 := by omega
    rcases hh with rfl | rfl | rfl | rfl | rfl | rfl | rfl | rfl | rfl | rfl | rfl | rfl | rfl
    all_goals first | rfl | (simp only [show ∀ o : Option TSpan, optF o (⟨0, mostI nw⟩ : TSpan) (fun x => x) = o.getD ⟨0, mostI nw⟩ from fun o => by cases o <;> rfl]; rfl)
  · rw [if_neg h, if_pos]
    simp only [Bool.or_eq_true, Bool.not_eq_true', decide_eq_false_iff_not]
    omega
end Go.V
