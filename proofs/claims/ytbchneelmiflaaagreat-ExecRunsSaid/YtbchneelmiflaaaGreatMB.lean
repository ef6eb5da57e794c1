import Derived.Test.YtbchneelmiflaaaGreatMA
import Derived.Test.YtbchneelmiflaaaGreatIr
import Derived.Test.YtbchneelmiflaaaGreatIs
import Derived.Test.YtbchneelmiflaaaGreatId
namespace Go.Y
open Go.RowKit Go.V Go.X Go.Proofs
theorem bv64 {x : Int} (h : IU64 x) : (BitVec.ofInt IntKind.u64.bits x).toNat = x.toNat := by
 rw [BitVec.toNat_ofInt]; simp only [IntKind.bits]; omega
theorem bAnd64 {x y : Int} (hx : IU64 x) (hy : IU64 y) : bAnd .u64 x y = ((x.toNat &&& y.toNat : Nat) : Int) := by
 unfold bAnd
 rw [BitVec.toNat_and, bv64 hx, bv64 hy, wrapU64_eq]
 have : x.toNat &&& y.toNat <= x.toNat := Nat.and_le_left
 omega
theorem lt64 {x : Int} (h : IU64 x) : x.toNat < 2 ^ 64 := by omega
theorem bOr64 {x y : Int} (hx : IU64 x) (hy : IU64 y) : bOr .u64 x y = ((x.toNat ||| y.toNat : Nat) : Int) := by
 unfold bOr
 rw [BitVec.toNat_or, bv64 hx, bv64 hy, wrapU64_eq]
 have := Nat.or_lt_two_pow (lt64 hx) (lt64 hy)
 omega
theorem bXor64 {x y : Int} (hx : IU64 x) (hy : IU64 y) : bXor .u64 x y = ((x.toNat ^^^ y.toNat : Nat) : Int) := by
 unfold bXor
 rw [BitVec.toNat_xor, bv64 hx, bv64 hy, wrapU64_eq]
 have := Nat.xor_lt_two_pow (lt64 hx) (lt64 hy)
 omega
theorem sShr64 {x y : Int} (hy : 0 <= y /\ y <= 64) : sShr .u64 x y = x / 2 ^ y.toNat := by
 unfold sShr
 rw [Int.fdiv_eq_ediv_of_nonneg _ (by exact Int.le_of_lt (Int.pow_pos (by omega)))]
 congr 2
 simp only [IntKind.bits]; omega
theorem sShl64 {x y : Int} (hy : 0 <= y /\ y <= 64) : sShl .u64 x y = (x * 2 ^ y.toNat) % 18446744073709551616 := by
 unfold sShl
 rw [wrapU64_eq]
 congr 3
 simp only [IntKind.bits]; omega
def sarN (z a s : Nat) (b : Bool) : Nat := (a >>> s) ||| (if b then (2 ^ s - 1) <<< (z - s) else 0)
theorem sarN_bit {z a s : Nat} {b : Bool} (ha : a < 2 ^ z) (hs : s < z) {k : Nat} (hk : k < z) : (sarN z a s b).testBit k = if k + s < z then a.testBit (k + s) else b := by
 unfold sarN
 rw [Nat.testBit_or, Nat.testBit_shiftRight]
 cases b with
 | false =>
  simp only [Bool.false_eq_true, if_false, Nat.zero_testBit, Bool.or_false]
  split
  ·rw [Nat.add_comm]
  ·exact Nat.testBit_lt_two_pow (Nat.lt_of_lt_of_le ha (Nat.pow_le_pow_right (by decide) (by omega)))
 | true =>
  simp only [if_true, Nat.testBit_shiftLeft, Nat.testBit_two_pow_sub_one]
  split
  ·rw [Nat.add_comm]; have : ¬ (k >= z - s) := by omega
   simp [this]
  ·have h1 : k >= z - s := by omega
   have h2 : k - (z - s) < s := by omega
   simp [h1, h2]
theorem sarN_lt {z a s : Nat} {b : Bool} (ha : a < 2 ^ z) (hs : s < z) : sarN z a s b < 2 ^ z := by
 unfold sarN
 apply Nat.or_lt_two_pow
 ·exact Nat.lt_of_le_of_lt (by rw [Nat.shiftRight_eq_div_pow]; exact Nat.div_le_self _ _) ha
 ·split
  ·rw [Nat.shiftLeft_eq]
   have h1 : 2 ^ z = 2 ^ s * 2 ^ (z - s) := by rw [<- Nat.pow_add]; congr 1; omega
   rw [h1]
   exact Nat.mul_lt_mul_of_pos_right (by have := Nat.two_pow_pos s; omega) (Nat.two_pow_pos _)
  ·exact Nat.two_pow_pos _
theorem sarN_add {z a s : Nat} {b : Bool} (ha : a < 2 ^ z) (hs : s < z) : sarN z a s b = a / 2 ^ s + (if b then (2 ^ s - 1) * 2 ^ (z - s) else 0) := by
 unfold sarN
 rw [Nat.shiftRight_eq_div_pow]
 cases b with
 | false => simp
 | true =>
  simp only [if_true]
  have h1 : 2 ^ z = 2 ^ s * 2 ^ (z - s) := by rw [<- Nat.pow_add]; congr 1; omega
  have h2 : a / 2 ^ s < 2 ^ (z - s) := Nat.div_lt_of_lt_mul (by rw [<- h1]; exact ha)
  rw [Nat.or_comm, <- Nat.shiftLeft_add_eq_or_of_lt h2, Nat.shiftLeft_eq, Nat.add_comm]
theorem mod_two_pow_succ' (x k : Nat) : x % 2 ^ (k + 1) = x % 2 ^ k + (if x.testBit k then 2 ^ k else 0) := by
 rw [Nat.mod_pow_succ, Nat.testBit_eq_decide_div_mod_eq]
 have : x / 2 ^ k % 2 = 0 \/ x / 2 ^ k % 2 = 1 := by omega
 rcases this with h | h <;> simp [h]
theorem or_bit {x k : Nat} (h : x < 2 ^ k) : x ||| 2 ^ k = x + 2 ^ k := by
 rw [Nat.or_comm, show (2 : Nat) ^ k = 1 <<< k from by rw [Nat.shiftLeft_eq, Nat.one_mul], <- Nat.shiftLeft_add_eq_or_of_lt h, Nat.add_comm]
theorem topBit {z a : Nat} (ha : a < 2 ^ (z + 1)) : a.testBit z = decide (2 ^ z <= a) := by
 rw [Nat.testBit_eq_decide_div_mod_eq]
 have h1 : a / 2 ^ z < 2 := Nat.div_lt_of_lt_mul (by rw [Nat.pow_succ] at ha; exact ha)
 by_cases h : 2 ^ z <= a
 ·have : 1 <= a / 2 ^ z := (Nat.one_le_div_iff (Nat.two_pow_pos _)).2 h
  have h2 : a / 2 ^ z = 1 := by omega
  simp [h2, h]
 ·have h2 : a / 2 ^ z = 0 := Nat.div_eq_of_lt (by omega)
  simp [h2, h]
theorem sar_up {z a s : Nat} (_ha : a < 2 ^ z) (hs : s < z) : ((a : Int) - (2 : Int) ^ z) / 2 ^ s = ((a / 2 ^ s : Nat) : Int) - 2 ^ (z - s) := by
 have h1 : (2 : Int) ^ z = 2 ^ (z - s) * 2 ^ s := by rw [<- Int.pow_add]; congr 1; omega
 rw [h1, Int.sub_eq_add_neg, <- Int.neg_mul, Int.add_mul_ediv_right _ _ (by exact Int.ne_of_gt (Int.pow_pos (by omega)))]
 simp [Int.sub_eq_add_neg]
theorem sar_dn {z s : Nat} (hs : s < z) : ((2 ^ s - 1) * 2 ^ (z - s) : Nat) = 2 ^ z - 2 ^ (z - s) := by
 rw [Nat.sub_mul, Nat.one_mul, <- Nat.pow_add]; congr 2; omega
theorem sar32 {a s : Nat} (ha : a < 2 ^ 32) (hs : s < 32) : IntKind.u32.wrap (sShr .i32 (IntKind.i32.wrap (a : Int)) (s : Int)) = ((sarN 32 a s (a.testBit 31) : Nat) : Int) := by
 rw [sarN_add ha hs, topBit (z := 31) ha]
 unfold sShr
 rw [Int.fdiv_eq_ediv_of_nonneg _ (by exact Int.le_of_lt (Int.pow_pos (by omega))), show min (s : Int).toNat IntKind.i32.bits = s from by simp only [IntKind.bits]; omega, wrapI32_eq, wrapU32_eq]
 have hd : a / 2 ^ s <= a := Nat.div_le_self _ _
 by_cases h : 2 ^ 31 <= a
 ·rw [if_pos (by omega), show (a : Int) % 4294967296 - 4294967296 = (a : Int) - (2 : Int) ^ 32 from by omega, sar_up ha hs]
  simp only [h, decide_true, if_true]
  rw [sar_dn hs]
  have h3 : 2 ^ (32 - s) <= 2 ^ 32 := Nat.pow_le_pow_right (by decide) (by omega)
  have h4 : (2 : Int) ^ (32 - s) = ((2 ^ (32 - s) : Nat) : Int) := by simp
  have h5 : a / 2 ^ s < 2 ^ (32 - s) := Nat.div_lt_of_lt_mul (by rw [<- Nat.pow_add]; rw [show s + (32 - s) = 32 by omega]; exact ha)
  rw [h4]
  have h6 := Nat.two_pow_pos (32 - s)
  generalize 2 ^ (32 - s) = q at *
  generalize a / 2 ^ s = d at *
  omega
 ·rw [if_neg (by omega), show (a : Int) % 4294967296 = (a : Int) by omega]
  simp only [h, decide_false, Bool.false_eq_true, if_false]
  have : (a : Int) / 2 ^ s = ((a / 2 ^ s : Nat) : Int) := by simp
  rw [this]; generalize a / 2 ^ s = d at *; omega
theorem sar64 {a s : Nat} (ha : a < 2 ^ 64) (hs : s < 64) : IntKind.u64.wrap (sShr .i64 (IntKind.i64.wrap (a : Int)) (s : Int)) = ((sarN 64 a s (a.testBit 63) : Nat) : Int) := by
 rw [sarN_add ha hs, topBit (z := 63) ha]
 unfold sShr
 rw [Int.fdiv_eq_ediv_of_nonneg _ (by exact Int.le_of_lt (Int.pow_pos (by omega))), show min (s : Int).toNat IntKind.i64.bits = s from by simp only [IntKind.bits]; omega, wrapI64_eq, wrapU64_eq]
 have hd : a / 2 ^ s <= a := Nat.div_le_self _ _
 by_cases h : 2 ^ 63 <= a
 ·rw [if_pos (by omega), show (a : Int) % 18446744073709551616 - 18446744073709551616 = (a : Int) - (2 : Int) ^ 64 from by omega, sar_up ha hs]
  simp only [h, decide_true, if_true]
  rw [sar_dn hs]
  have h3 : 2 ^ (64 - s) <= 2 ^ 64 := Nat.pow_le_pow_right (by decide) (by omega)
  have h4 : (2 : Int) ^ (64 - s) = ((2 ^ (64 - s) : Nat) : Int) := by simp
  have h5 : a / 2 ^ s < 2 ^ (64 - s) := Nat.div_lt_of_lt_mul (by rw [<- Nat.pow_add]; rw [show s + (64 - s) = 64 by omega]; exact ha)
  rw [h4]
  have h6 := Nat.two_pow_pos (64 - s)
  generalize 2 ^ (64 - s) = q at *
  generalize a / 2 ^ s = d at *
  omega
 ·rw [if_neg (by omega), show (a : Int) % 18446744073709551616 = (a : Int) by omega]
  simp only [h, decide_false, Bool.false_eq_true, if_false]
  have : (a : Int) / 2 ^ s = ((a / 2 ^ s : Nat) : Int) := by simp
  rw [this]; generalize a / 2 ^ s = d at *; omega
theorem moved_step {z k : Nat} {T : Nat} (hz : z <= 64) (hk : k < z) (hT : T.testBit k = true) : bOr .u64 ((T % 2 ^ k : Nat) : Int) (sShl .u64 1 (IntKind.u64.wrap (k : Int))) = ((T % 2 ^ (k + 1) : Nat) : Int) := by
 have h1 : 2 ^ k <= 2 ^ 63 := Nat.pow_le_pow_right (by decide) (by omega)
 have h2 : T % 2 ^ k < 2 ^ k := Nat.mod_lt _ (Nat.two_pow_pos _)
 rw [show IntKind.u64.wrap (k : Int) = (k : Int) from by rw [wrapU64_eq]; omega, sShl64 (by omega), Int.toNat_natCast]
 have e : (1 : Int) * 2 ^ k % 18446744073709551616 = ((2 ^ k : Nat) : Int) := by
  rw [Int.one_mul, show (2 : Int) ^ k = ((2 ^ k : Nat) : Int) from by simp]; omega
 rw [e, bOr64 (by omega) (by omega), Int.toNat_natCast, Int.toNat_natCast, or_bit h2, mod_two_pow_succ', hT]
 rfl
theorem bit_p {a : Nat} {k : Nat} (ha : a < 2 ^ 64) (hk : k < 64) : qax BIG (a : Int) (k : Int) = some (a.testBit k) := by
 rw [qax_eq, show IntKind.u64.wrap (k : Int) = (k : Int) from by rw [wrapU64_eq]; omega, sShr64 (by omega), if_neg (by omega)]
 have e : (a : Int) / 2 ^ (k : Int).toNat = ((a >>> k : Nat) : Int) := by rw [Nat.shiftRight_eq_div_pow]; simp
 have hle : a >>> k <= a := by rw [Nat.shiftRight_eq_div_pow]; exact Nat.div_le_self _ _
 rw [e, Nat.testBit]
 generalize a >>> k = q at *
 rw [bAnd64 (by omega) (by omega), Int.toNat_natCast, show (1 : Int).toNat = 1 from rfl, Nat.and_comm]
 have h2 : 1 &&& q = 0 \/ 1 &&& q = 1 := by
  rw [Nat.and_comm, Nat.and_one_is_mod]; omega
 rcases h2 with h | h <;> rw [h] <;> rfl
def cmb (op : Int) (x y : Bool) : Bool := if op = 8 then x != y else if op = 7 then x || y else x && y
theorem each_loop {a b T : Nat} {op : Int} (ha : a < 2 ^ 64) (hb : b < 2 ^ 64) (hT : ∀ k, k < 64 -> T.testBit k = cmb op (a.testBit k) (b.testBit k)) (hT64 : T < 2 ^ 64) : ∀ (m k n : Nat), k + m = 64 -> 5 * m + 1 <= n -> qh_L0 n op (a : Int) (b : Int) ((T % 2 ^ k : Nat) : Int) (k : Int) = some (T : Int)
 | 0, k, n, hk, hn => by
  obtain ⟨n, rfl⟩ : ∃ n', n = n' + 1 := ⟨n - 1, by omega⟩
  obtain rfl : k = 64 := by omega
  rw [qh_L0_eq, forkB_if, if_neg (by decide), Nat.mod_eq_of_lt hT64]
 | m + 1, k, n, hk, hn => by
  obtain ⟨n, rfl⟩ : ∃ n', n = n' + 1 + 1 + 1 + 1 + 1 := ⟨n - 5, by omega⟩
  have ih := each_loop ha hb hT hT64 m (k + 1) n (by omega) (by omega)
  have j1 : ∀ v, qh_J1 (n + 1) op (a : Int) (b : Int) v (k : Int) = qh_L0 n op (a : Int) (b : Int) v ((k + 1 : Nat) : Int) := fun v => by
   rw [qh_J1_eq, wrap64 (by omega), show ((k : Int) + 1) = ((k + 1 : Nat) : Int) by omega]
  have j4 : ∀ c, T.testBit k = c -> qh_J4 (n + 1 + 1) op (a : Int) (b : Int) ((T % 2 ^ k : Nat) : Int) (k : Int) c = some (T : Int) := fun c hc => by
   rw [qh_J4_eq, forkB_if, if_neg (show ¬ IntKind.u64.wrap (k : Int) < 0 by rw [wrapU64_eq]; omega), j1, j1]
   cases c with
   | false =>
    rw [if_neg (by decide)]
    have e : T % 2 ^ (k + 1) = T % 2 ^ k := by rw [mod_two_pow_succ', hc]; simp
    rw [<- e]; exact ih
   | true => rw [if_pos rfl, moved_step (z := 64) (by omega) (by omega) hc]; exact ih
  have j3 : ∀ c x y, T.testBit k = (if op = 8 then x != y else c) -> qh_J3 (n + 1 + 1 + 1) op (a : Int) (b : Int) ((T % 2 ^ k : Nat) : Int) (k : Int) x y c = some (T : Int) := fun c x y h => by
   rw [qh_J3_eq, forkB_if]
   by_cases h8 : op = 8
   ·rw [if_pos (by simp [h8]), j4]
    rw [h, if_pos h8]; rfl
   ·rw [if_neg (by simpa using h8), j4 _ (by rw [h, if_neg h8])]
  have j2 : ∀ x y, T.testBit k = cmb op x y -> qh_J2 (n + 1 + 1 + 1 + 1) op (a : Int) (b : Int) ((T % 2 ^ k : Nat) : Int) (k : Int) x y (x && y) = some (T : Int) := fun x y h => by
   unfold cmb at h
   rw [qh_J2_eq, forkB_if]
   by_cases h7 : op = 7
   ·rw [if_pos (by simp [h7]), forkB_if]
    rw [if_pos h7] at h
    cases x with
    | true => rw [if_pos rfl]; exact j3 true true y h
    | false => rw [if_neg (by decide)]; exact j3 y false y h
   ·rw [if_neg (by simpa using h7), j3 _ _ _ (by rw [h, if_neg h7])]
  have h := hT k (by omega)
  rw [qh_L0_eq, forkB_if, if_pos (by simp; omega), bit_p ha (by omega), obind_of, bit_p hb (by omega), obind_of, forkB_if]
  cases hx : a.testBit k with
  | true =>
   rw [if_pos rfl]
   have := j2 true (b.testBit k) (by rw [h, hx])
   exact this
  | false =>
   rw [if_neg (by decide)]
   have := j2 false (b.testBit k) (by rw [h, hx])
   exact this
theorem each_p {a b T : Nat} {op : Int} (ha : a < 2 ^ 64) (hb : b < 2 ^ 64) (hT : ∀ k, k < 64 -> T.testBit k = cmb op (a.testBit k) (b.testBit k)) (hT64 : T < 2 ^ 64) : qh BIG op (a : Int) (b : Int) = some (T : Int) := by
 have := each_loop ha hb hT hT64 64 0 BIG (by omega) (by show 5 * 64 + 1 <= 1000000000; omega)
 rw [Nat.pow_zero, Nat.mod_one] at this
 rw [qh_eq]; exact this
theorem moved_loop {a T z : Nat} {s : Int} {b : Bool} (ha : a < 2 ^ 64) (hz : z <= 64) (hs : -64 <= s /\ s <= 64) (hT : ∀ k : Nat, k < z -> T.testBit k = if 0 <= (k : Int) - s /\ (k : Int) - s < z then a.testBit ((k : Int) - s).toNat else b) (hT64 : T < 2 ^ z) : ∀ (m k n : Nat), k + m = z -> 4 * m + 1 <= n -> ql_L0 n (a : Int) s (z : Int) b ((T % 2 ^ k : Nat) : Int) (k : Int) = some (T : Int)
 | 0, k, n, hk, hn => by
  obtain ⟨n, rfl⟩ : ∃ n', n = n' + 1 := ⟨n - 1, by omega⟩
  obtain rfl : k = z := by omega
  rw [ql_L0_eq, forkB_if, if_neg (by simp), Nat.mod_eq_of_lt hT64]
 | m + 1, k, n, hk, hn => by
  obtain ⟨n, rfl⟩ : ∃ n', n = n' + 1 + 1 + 1 + 1 := ⟨n - 4, by omega⟩
  have ih := moved_loop ha hz hs hT hT64 m (k + 1) n (by omega) (by omega)
  have j1 : ∀ v, ql_J1 (n + 1) (a : Int) s (z : Int) b v (k : Int) = ql_L0 n (a : Int) s (z : Int) b v ((k + 1 : Nat) : Int) := fun v => by
   rw [ql_J1_eq, wrap64 (by omega), show ((k : Int) + 1) = ((k + 1 : Nat) : Int) by omega]
  have j2 : ∀ c, T.testBit k = c -> ql_J2 (n + 1 + 1) (a : Int) s (z : Int) b ((T % 2 ^ k : Nat) : Int) (k : Int) c = some (T : Int) := fun c hc => by
   rw [ql_J2_eq, forkB_if, if_neg (show ¬ IntKind.u64.wrap (k : Int) < 0 by rw [wrapU64_eq]; omega), j1, j1]
   cases c with
   | false =>
    rw [if_neg (by decide)]
    have e : T % 2 ^ (k + 1) = T % 2 ^ k := by rw [mod_two_pow_succ', hc]; simp
    rw [<- e]; exact ih
   | true => rw [if_pos rfl, moved_step hz (by omega) hc]; exact ih
  have h := hT k (by omega)
  rw [ql_L0_eq, forkB_if, if_pos (by simp; omega), wrap64 (by omega), forkB_if]
  by_cases h0 : 0 <= (k : Int) - s
  ·rw [if_pos (by simpa using h0), ql_J3_eq, forkB_if]
   by_cases h1 : (k : Int) - s < z
   ·rw [if_pos (by simpa using h1)]
    rw [if_pos ⟨h0, h1⟩] at h
    have hb := bit_p ha (show ((k : Int) - s).toNat < 64 by omega)
    rw [Int.toNat_of_nonneg h0] at hb
    rw [hb, obind_of, j2 _ h]
   ·rw [if_neg (by simpa using h1), j2 _ (by rw [h, if_neg (by omega)])]
  ·rw [if_neg (by simpa using h0), ql_J3_eq, forkB_if, if_neg (by decide), j2 _ (by rw [h, if_neg (by omega)])]
theorem moved_p {a T z : Nat} {s : Int} {b : Bool} (ha : a < 2 ^ 64) (hz : z <= 64) (hs : -64 <= s /\ s <= 64) (hT : ∀ k : Nat, k < z -> T.testBit k = if 0 <= (k : Int) - s /\ (k : Int) - s < z then a.testBit ((k : Int) - s).toNat else b) (hT64 : T < 2 ^ z) : ql BIG (a : Int) s (z : Int) b = some (T : Int) := by
 have := moved_loop ha hz hs hT hT64 z 0 BIG (by omega) (by show 4 * z + 1 <= 1000000000; omega)
 rw [Nat.pow_zero, Nat.mod_one] at this
 rw [ql_eq]; exact this
theorem down_p {a s z : Nat} (b : Bool) (ha : a < 2 ^ z) (hz : z <= 64) (hs : s < z) : ql BIG (a : Int) (0 - (s : Int)) (z : Int) b = some ((sarN z a s b : Nat) : Int) := by
 refine moved_p (Nat.lt_of_lt_of_le ha (Nat.pow_le_pow_right (by decide) hz)) hz (by omega) (fun k hk => ?_) (sarN_lt ha hs)
 rw [sarN_bit ha hs hk]
 by_cases h : k + s < z
 ·rw [if_pos h, if_pos (by omega), show ((k : Int) - (0 - (s : Int))).toNat = k + s by omega]
 ·rw [if_neg h, if_neg (by omega)]
theorem up_p {a s z : Nat} (ha : a < 2 ^ z) (hz : z <= 64) (hs : s < z) : ql BIG (a : Int) (s : Int) (z : Int) false = some (((a <<< s) % 2 ^ z : Nat) : Int) := by
 refine moved_p (Nat.lt_of_lt_of_le ha (Nat.pow_le_pow_right (by decide) hz)) hz (by omega) (fun k hk => ?_) (Nat.mod_lt _ (Nat.two_pow_pos _))
 rw [Nat.testBit_mod_two_pow, Nat.testBit_shiftLeft]
 by_cases h : s <= k
 ·rw [if_pos (by omega), show ((k : Int) - (s : Int)).toNat = k - s by omega]; simp [hk, h]
 ·rw [if_neg (by omega)]; simp [h]
end Go.Y
namespace Go.Y
open Go.RowKit Go.V Go.X Go.Proofs
def rV (z : Nat) (op : Int) (a b : Nat) : Int × Int :=
 if op = 1 then (IntKind.u64.wrap ((a : Int) + (b : Int)), 0) else if op = 2 then (IntKind.u64.wrap ((a : Int) - (b : Int)), 0) else if op = 3 then (IntKind.u64.wrap ((a : Int) * (b : Int)), 0)
 else if op = 4 then (if b = 0 then (0, 113) else (((a / b : Nat) : Int), 0)) else if op = 5 then (if b = 0 then (0, 113) else (((a % b : Nat) : Int), 0))
 else if op = 6 then (((a &&& b : Nat) : Int), 0) else if op = 7 then (((a ||| b : Nat) : Int), 0) else if op = 8 then (((a ^^^ b : Nat) : Int), 0)
 else if op = 9 then ((((a <<< (b % z)) % 2 ^ z : Nat) : Int), 0) else if op = 10 then (((sarN z a (b % z) false : Nat) : Int), 0) else if op = 11 then (((sarN z a (b % z) (a.testBit (z - 1)) : Nat) : Int), 0)
 else if op = 12 then ((b : Int), 0) else if op = 13 then (IntKind.u64.wrap (0 - (a : Int)), 0) else (0, 2)
def cutV (nw : Bool) (r : Int × Int) : Int × Int := if r.2 = 0 then (if nw = true then (bAnd .u64 r.1 4294967295, 0) else (r.1, 0)) else (0, r.2)
theorem rdo_J1 (n : Nat) (nw : Bool) (v : Int) : qc_J1 (n + 1) nw v = some (cutV nw (v, 0)) := by
 rw [qc_J1_eq]; cases nw <;> rfl
theorem tdivNat (a b : Nat) : ((a : Int)).tdiv (b : Int) = ((a / b : Nat) : Int) := by
 rw [Int.tdiv_eq_ediv_of_nonneg (by omega)]; exact (Int.natCast_ediv a b).symm
theorem tmodNat (a b : Nat) : ((a : Int)).tmod (b : Int) = ((a % b : Nat) : Int) := by
 rw [Int.tmod_eq_emod_of_nonneg (by omega)]; exact (Int.natCast_emod a b).symm
theorem rdo_J0 (n : Nat) (op : Int) (nw : Bool) {z a b : Nat} (hz : z = 32 \/ z = 64) (ha : a < 2 ^ z) (hb : b < 2 ^ z) : qc_J0 (n + 1 + 1 + 1 + 1) op nw (a : Int) (b : Int) (z : Int) = some (cutV nw (rV z op a b)) := by
 have hz64 : z <= 64 := by omega
 have h64 : 2 ^ z <= 2 ^ 64 := Nat.pow_le_pow_right (by decide) hz64
 have ha64 : a < 2 ^ 64 := by omega
 have hb64 : b < 2 ^ 64 := by omega
 have ez : IntKind.u64.wrap (z : Int) = (z : Int) := by rw [wrapU64_eq]; omega
 have hs : b % z < z := Nat.mod_lt _ (by omega)
 have es : IntKind.i64.wrap ((b : Int).tmod (IntKind.u64.wrap (z : Int))) = ((b % z : Nat) : Int) := by rw [ez, tmodNat, wrap64 (by omega)]
 have en : IntKind.i64.wrap (0 - ((b % z : Nat) : Int)) = 0 - ((b % z : Nat) : Int) := wrap64 (by omega)
 have ezn : ¬ IntKind.u64.wrap (z : Int) = 0 := by rw [ez]; omega
 by_cases h1 : op = 1
 ·subst h1
  rw [qc_J0_eq, show ((1 : Int) == 1) = true from rfl, forkB_true, rdo_J1]; rfl
 by_cases h2 : op = 2
 ·subst h2
  rw [qc_J0_eq, show ((2 : Int) == 1) = false from rfl, forkB_false, show ((2 : Int) == 2) = true from rfl, forkB_true, rdo_J1]; rfl
 by_cases h3 : op = 3
 ·subst h3
  rw [qc_J0_eq, show ((3 : Int) == 1) = false from rfl, forkB_false, show ((3 : Int) == 2) = false from rfl, forkB_false, show ((3 : Int) == 3) = true from rfl, forkB_true, rdo_J1]; rfl
 by_cases h4 : op = 4
 ·subst h4
  rw [qc_J0_eq, show ((4 : Int) == 1) = false from rfl, forkB_false, show ((4 : Int) == 2) = false from rfl, forkB_false, show ((4 : Int) == 3) = false from rfl, forkB_false, show ((4 : Int) == 4) = true from rfl, forkB_true]
  have hr : rV z 4 a b = if b = 0 then (0, 113) else (((a / b : Nat) : Int), 0) := rfl
  rw [hr, qc_J2_eq, forkB_true, forkB_if]
  by_cases hb0 : b = 0
  ·subst hb0; rw [if_pos (by decide), if_pos rfl]; rfl
  ·rw [if_neg (show ¬ (((b : Nat) : Int) == 0) = true by simpa using hb0), if_neg (show ¬ ((b : Nat) : Int) = 0 by omega), if_neg hb0, show ((4 : Int) == 5) = false from rfl, forkB_false]
   have hd : a / b <= a := Nat.div_le_self _ _
   rw [tdivNat]
   generalize a / b = q at *
   rw [wrapU64 ⟨by omega, by omega⟩, rdo_J1]
 by_cases h5 : op = 5
 ·subst h5
  rw [qc_J0_eq, show ((5 : Int) == 1) = false from rfl, forkB_false, show ((5 : Int) == 2) = false from rfl, forkB_false, show ((5 : Int) == 3) = false from rfl, forkB_false, show ((5 : Int) == 4) = false from rfl, forkB_false, show ((5 : Int) == 5) = true from rfl]
  have hr : rV z 5 a b = if b = 0 then (0, 113) else (((a % b : Nat) : Int), 0) := rfl
  rw [hr, qc_J2_eq, forkB_true, forkB_if]
  by_cases hb0 : b = 0
  ·subst hb0; rw [if_pos (by decide), if_pos rfl]; rfl
  ·rw [if_neg (show ¬ (((b : Nat) : Int) == 0) = true by simpa using hb0), if_neg (show ¬ ((b : Nat) : Int) = 0 by omega), if_neg hb0, show ((5 : Int) == 5) = true from rfl, forkB_true]
   have hd : a / b <= a := Nat.div_le_self _ _
   have hm := Nat.div_add_mod a b
   have hml : a % b <= a := Nat.mod_le _ _
   have e : ((a / b : Nat) : Int) * (b : Int) = ((b * (a / b) : Nat) : Int) := by rw [Nat.mul_comm]; push_cast; rfl
   have ew : IntKind.u64.wrap ((a / b : Nat) : Int) = ((a / b : Nat) : Int) := by generalize a / b = q at *; exact wrapU64 ⟨by omega, by omega⟩
   rw [tdivNat, ew, e]
   generalize b * (a / b) = q at *
   generalize a % b = r at *
   rw [wrapU64 (x := ((q : Nat) : Int)) ⟨by omega, by omega⟩, show (a : Int) - (q : Int) = ((r : Nat) : Int) by omega, wrapU64 ⟨by omega, by omega⟩, rdo_J1]
 by_cases h6 : op = 6
 ·subst h6
  rw [qc_J0_eq, show ((6 : Int) == 1) = false from rfl, forkB_false, show ((6 : Int) == 2) = false from rfl, forkB_false, show ((6 : Int) == 3) = false from rfl, forkB_false, show ((6 : Int) == 4) = false from rfl, forkB_false, show ((6 : Int) == 5) = false from rfl]
  rw [qc_J2_eq, forkB_false, show ((6 : Int) == 6) = true from rfl, forkB_true]
  rw [qc_J3_eq, forkB_true, each_p (T := a &&& b) ha64 hb64 (fun k _ => by rw [Nat.testBit_and]; rfl) (Nat.and_lt_two_pow _ hb64), obind_of, rdo_J1]; rfl
 by_cases h7 : op = 7
 ·subst h7
  rw [qc_J0_eq, show ((7 : Int) == 1) = false from rfl, forkB_false, show ((7 : Int) == 2) = false from rfl, forkB_false, show ((7 : Int) == 3) = false from rfl, forkB_false, show ((7 : Int) == 4) = false from rfl, forkB_false, show ((7 : Int) == 5) = false from rfl]
  rw [qc_J2_eq, forkB_false, show ((7 : Int) == 6) = false from rfl, forkB_false, show ((7 : Int) == 7) = true from rfl, forkB_true]
  rw [qc_J3_eq, forkB_true, each_p (T := a ||| b) ha64 hb64 (fun k _ => by rw [Nat.testBit_or]; rfl) (Nat.or_lt_two_pow ha64 hb64), obind_of, rdo_J1]; rfl
 by_cases h8 : op = 8
 ·subst h8
  rw [qc_J0_eq, show ((8 : Int) == 1) = false from rfl, forkB_false, show ((8 : Int) == 2) = false from rfl, forkB_false, show ((8 : Int) == 3) = false from rfl, forkB_false, show ((8 : Int) == 4) = false from rfl, forkB_false, show ((8 : Int) == 5) = false from rfl]
  rw [qc_J2_eq, forkB_false, show ((8 : Int) == 6) = false from rfl, forkB_false, show ((8 : Int) == 7) = false from rfl, forkB_false, show ((8 : Int) == 8) = true from rfl]
  rw [qc_J3_eq, forkB_true, each_p (T := a ^^^ b) ha64 hb64 (fun k _ => by rw [Nat.testBit_xor]; rfl) (Nat.xor_lt_two_pow ha64 hb64), obind_of, rdo_J1]; rfl
 by_cases h9 : op = 9
 ·subst h9
  rw [qc_J0_eq, show ((9 : Int) == 1) = false from rfl, forkB_false, show ((9 : Int) == 2) = false from rfl, forkB_false, show ((9 : Int) == 3) = false from rfl, forkB_false, show ((9 : Int) == 4) = false from rfl, forkB_false, show ((9 : Int) == 5) = false from rfl]
  rw [qc_J2_eq, forkB_false, show ((9 : Int) == 6) = false from rfl, forkB_false, show ((9 : Int) == 7) = false from rfl, forkB_false, show ((9 : Int) == 8) = false from rfl]
  rw [qc_J3_eq, forkB_false, show ((9 : Int) == 9) = true from rfl, forkB_true, if_neg ezn, es, up_p ha hz64 hs, obind_of, rdo_J1]; rfl
 by_cases h10 : op = 10
 ·subst h10
  rw [qc_J0_eq, show ((10 : Int) == 1) = false from rfl, forkB_false, show ((10 : Int) == 2) = false from rfl, forkB_false, show ((10 : Int) == 3) = false from rfl, forkB_false, show ((10 : Int) == 4) = false from rfl, forkB_false, show ((10 : Int) == 5) = false from rfl]
  rw [qc_J2_eq, forkB_false, show ((10 : Int) == 6) = false from rfl, forkB_false, show ((10 : Int) == 7) = false from rfl, forkB_false, show ((10 : Int) == 8) = false from rfl]
  rw [qc_J3_eq, forkB_false, show ((10 : Int) == 9) = false from rfl, forkB_false, show ((10 : Int) == 10) = true from rfl, forkB_true, if_neg ezn, es, en, down_p false ha hz64 hs, obind_of, rdo_J1]; rfl
 by_cases h11 : op = 11
 ·subst h11
  rw [qc_J0_eq, show ((11 : Int) == 1) = false from rfl, forkB_false, show ((11 : Int) == 2) = false from rfl, forkB_false, show ((11 : Int) == 3) = false from rfl, forkB_false, show ((11 : Int) == 4) = false from rfl, forkB_false, show ((11 : Int) == 5) = false from rfl]
  rw [qc_J2_eq, forkB_false, show ((11 : Int) == 6) = false from rfl, forkB_false, show ((11 : Int) == 7) = false from rfl, forkB_false, show ((11 : Int) == 8) = false from rfl]
  rw [qc_J3_eq, forkB_false, show ((11 : Int) == 9) = false from rfl, forkB_false, show ((11 : Int) == 10) = false from rfl, forkB_false, show ((11 : Int) == 11) = true from rfl, forkB_true, if_neg ezn, wrap64 (x := (z : Int) - 1) (by omega), show (z : Int) - 1 = ((z - 1 : Nat) : Int) by omega, bit_p ha64 (by omega), obind_of, es, en, down_p _ ha hz64 hs, obind_of, rdo_J1]; rfl
 by_cases h12 : op = 12
 ·subst h12
  rw [qc_J0_eq, show ((12 : Int) == 1) = false from rfl, forkB_false, show ((12 : Int) == 2) = false from rfl, forkB_false, show ((12 : Int) == 3) = false from rfl, forkB_false, show ((12 : Int) == 4) = false from rfl, forkB_false, show ((12 : Int) == 5) = false from rfl]
  rw [qc_J2_eq, forkB_false, show ((12 : Int) == 6) = false from rfl, forkB_false, show ((12 : Int) == 7) = false from rfl, forkB_false, show ((12 : Int) == 8) = false from rfl]
  rw [qc_J3_eq, forkB_false, show ((12 : Int) == 9) = false from rfl, forkB_false, show ((12 : Int) == 10) = false from rfl, forkB_false, show ((12 : Int) == 11) = false from rfl, forkB_false, show ((12 : Int) == 12) = true from rfl, forkB_true, rdo_J1]; rfl
 by_cases h13 : op = 13
 ·subst h13
  rw [qc_J0_eq, show ((13 : Int) == 1) = false from rfl, forkB_false, show ((13 : Int) == 2) = false from rfl, forkB_false, show ((13 : Int) == 3) = false from rfl, forkB_false, show ((13 : Int) == 4) = false from rfl, forkB_false, show ((13 : Int) == 5) = false from rfl]
  rw [qc_J2_eq, forkB_false, show ((13 : Int) == 6) = false from rfl, forkB_false, show ((13 : Int) == 7) = false from rfl, forkB_false, show ((13 : Int) == 8) = false from rfl]
  rw [qc_J3_eq, forkB_false, show ((13 : Int) == 9) = false from rfl, forkB_false, show ((13 : Int) == 10) = false from rfl, forkB_false, show ((13 : Int) == 11) = false from rfl, forkB_false, show ((13 : Int) == 12) = false from rfl, forkB_false, show ((13 : Int) == 13) = true from rfl, forkB_true, rdo_J1]; rfl
 unfold rV
 rw [if_neg h1, if_neg h2, if_neg h3, if_neg h4, if_neg h5, if_neg h6, if_neg h7, if_neg h8, if_neg h9, if_neg h10, if_neg h11, if_neg h12, if_neg h13]
 have b5 : (op == 5) = false := by simpa using h5
 have b8 : (op == 8) = false := by simpa using h8
 rw [qc_J0_eq, forkB_if, if_neg (by simpa using h1), forkB_if, if_neg (by simpa using h2), forkB_if, if_neg (by simpa using h3), forkB_if, if_neg (by simpa using h4), b5, qc_J2_eq, forkB_false, forkB_if, if_neg (by simpa using h6), forkB_if, if_neg (by simpa using h7), b8, qc_J3_eq, forkB_false, forkB_if, if_neg (by simpa using h9), forkB_if, if_neg (by simpa using h10), forkB_if, if_neg (by simpa using h11), forkB_if, if_neg (by simpa using h12), forkB_if, if_neg (by simpa using h13)]
 rfl
theorem bv32 {x : Nat} (h : x < 2 ^ 32) : (BitVec.ofInt IntKind.u32.bits (x : Int)).toNat = x := by
 rw [BitVec.toNat_ofInt]; simp only [IntKind.bits]; omega
theorem wrapU32 {x : Nat} (h : x < 2 ^ 32) : IntKind.u32.wrap (x : Int) = (x : Int) := by rw [wrapU32_eq]; omega
theorem wrapU64n {x : Nat} (h : x < 2 ^ 64) : IntKind.u64.wrap (x : Int) = (x : Int) := by rw [wrapU64_eq]; omega
theorem shrNat (k : IntKind) (a s : Nat) (h : s <= k.bits) : sShr k (a : Int) (s : Int) = ((a / 2 ^ s : Nat) : Int) := by
 unfold sShr
 rw [Int.fdiv_eq_ediv_of_nonneg _ (by exact Int.le_of_lt (Int.pow_pos (by omega))), show min (s : Int).toNat k.bits = s by omega]
 simp
theorem shlNat (k : IntKind) (a s : Nat) (h : s <= k.bits) : sShl k (a : Int) (s : Int) = k.wrap ((a <<< s : Nat) : Int) := by
 unfold sShl
 rw [show min (s : Int).toNat k.bits = s by omega, Nat.shiftLeft_eq]
 push_cast; rfl
theorem sarF (z a s : Nat) : sarN z a s false = a / 2 ^ s := by unfold sarN; rw [Nat.shiftRight_eq_div_pow]; simp
theorem doW64 (op : Int) {a b : Nat} (ha : a < 2 ^ 64) (hb : b < 2 ^ 64) : doW .u64 .i64 64 op (a : Int) (b : Int) = cutV false (rV 64 op a b) := by
 have es : (b : Int).tmod 64 = ((b % 64 : Nat) : Int) := tmodNat b 64
 have hs : b % 64 < 64 := Nat.mod_lt _ (by decide)
 unfold doW doV
 rw [es]
 by_cases h4 : op = 4
 ·subst h4
  show (if ((4 : Int) = 4 \/ (4 : Int) = 5) /\ (b : Int) = 0 then _ else (IntKind.u64.wrap ((a : Int).tdiv (b : Int)), 0)) = cutV false (if b = 0 then (0, 113) else (((a / b : Nat) : Int), 0))
  by_cases hb0 : b = 0
  ·rw [if_pos ⟨.inl rfl, by omega⟩, if_pos hb0]; rfl
  ·have := Nat.div_le_self a b
   rw [if_neg (fun h => hb0 (by have := h.2; omega)), if_neg hb0, tdivNat]
   generalize a / b = q at *
   rw [wrapU64n (by omega)]; rfl
 by_cases h5 : op = 5
 ·subst h5
  show (if ((5 : Int) = 4 \/ (5 : Int) = 5) /\ (b : Int) = 0 then _ else ((a : Int).tmod (b : Int), 0)) = cutV false (if b = 0 then (0, 113) else (((a % b : Nat) : Int), 0))
  by_cases hb0 : b = 0
  ·rw [if_pos ⟨.inr rfl, by omega⟩, if_pos hb0]; rfl
  ·rw [if_neg (fun h => hb0 (by have := h.2; omega)), if_neg hb0, tmodNat]; rfl
 rw [if_neg (fun h => by rcases h.1 with h | h <;> omega), if_neg h4, if_neg h5]
 unfold rV
 rw [if_neg h4, if_neg h5]
 by_cases h1 : op = 1
 ·subst h1; rfl
 by_cases h2 : op = 2
 ·subst h2; rfl
 by_cases h3 : op = 3
 ·subst h3; rfl
 rw [if_neg h1, if_neg h2, if_neg h3, if_neg h1, if_neg h2, if_neg h3]
 by_cases h6 : op = 6
 ·rw [if_pos h6, if_pos h6, bAnd64 (by omega) (by omega)]; rfl
 by_cases h7 : op = 7
 ·rw [if_neg h6, if_neg h6, if_pos h7, if_pos h7, bOr64 (by omega) (by omega)]; rfl
 by_cases h8 : op = 8
 ·rw [if_neg h6, if_neg h6, if_neg h7, if_neg h7, if_pos h8, if_pos h8, bXor64 (by omega) (by omega)]; rfl
 rw [if_neg h6, if_neg h6, if_neg h7, if_neg h7, if_neg h8, if_neg h8]
 by_cases h9 : op = 9
 ·rw [if_pos h9, if_pos h9, shlNat .u64 a _ (by show b % 64 <= 64; omega), wrapU64_eq, show (18446744073709551616 : Int) = ((2 ^ 64 : Nat) : Int) from by decide, <- Int.natCast_emod]; rfl
 by_cases h10 : op = 10
 ·rw [if_neg h9, if_neg h9, if_pos h10, if_pos h10, shrNat .u64 a _ (by show b % 64 <= 64; omega), sarF]; rfl
 by_cases h11 : op = 11
 ·rw [if_neg h9, if_neg h9, if_neg h10, if_neg h10, if_pos h11, if_pos h11, sar64 ha hs]; rfl
 rw [if_neg h9, if_neg h9, if_neg h10, if_neg h10, if_neg h11, if_neg h11]
 by_cases h12 : op = 12
 ·subst h12; rfl
 by_cases h13 : op = 13
 ·subst h13; rfl
 rw [if_neg h12, if_neg h13]; rfl
theorem and_lowI (x : Int) (h : IU64 x) : bAnd .u64 x 4294967295 = x % 4294967296 := by
 rw [bAnd64 h (by decide), show (4294967295 : Int).toNat = 2 ^ 32 - 1 from rfl, Nat.and_two_pow_sub_one_eq_mod]; omega
theorem wrapU64_IU (x : Int) : IU64 (IntKind.u64.wrap x) := wu64 x
theorem cutT {v w : Int} (hv : IU64 v) (h : v % 4294967296 = w) : cutV true (v, 0) = (w, 0) := by
 show (bAnd .u64 v 4294967295, (0 : Int)) = _
 rw [and_lowI _ hv, h]
theorem doW32 (op : Int) {a b : Nat} (ha : a < 2 ^ 32) (hb : b < 2 ^ 32) : (IntKind.u64.wrap (doW .u32 .i32 32 op (a : Int) (b : Int)).1, (doW .u32 .i32 32 op (a : Int) (b : Int)).2) = cutV true (rV 32 op a b) := by
 have es : (b : Int).tmod 32 = ((b % 32 : Nat) : Int) := tmodNat b 32
 have hs : b % 32 < 32 := Nat.mod_lt _ (by decide)
 have w6 : ∀ x : Int, 0 <= x -> x <= 4294967295 -> IntKind.u64.wrap x = x := fun x h1 h2 => wrapU64 ⟨h1, by omega⟩
 have fin : ∀ v w : Int, IU64 v -> v % 4294967296 = w -> (IntKind.u64.wrap w, (0 : Int)) = cutV true (v, 0) := fun v w hv h => by
  rw [cutT hv h, w6 _ (by omega) (by omega)]
 unfold doW doV
 rw [es]
 by_cases h4 : op = 4
 ·subst h4
  by_cases hb0 : b = 0
  ·subst hb0; rfl
  ·have := Nat.div_le_self a b
   have hn : ¬ (((4 : Int) = 4 \/ (4 : Int) = 5) /\ (b : Int) = 0) := fun h => hb0 (by have := h.2; omega)
   have hr : rV 32 4 a b = (((a / b : Nat) : Int), 0) := by show (if b = 0 then _ else _) = _; rw [if_neg hb0]
   rw [if_neg hn, hr]
   show (IntKind.u64.wrap (IntKind.u32.wrap ((a : Int).tdiv (b : Int))), (0 : Int)) = _
   rw [tdivNat]
   generalize a / b = q at *
   exact fin _ _ (by omega) (by rw [wrapU32_eq])
 by_cases h5 : op = 5
 ·subst h5
  by_cases hb0 : b = 0
  ·subst hb0; rfl
  ·have := Nat.mod_le a b
   have hn : ¬ (((5 : Int) = 4 \/ (5 : Int) = 5) /\ (b : Int) = 0) := fun h => hb0 (by have := h.2; omega)
   have hr : rV 32 5 a b = (((a % b : Nat) : Int), 0) := by show (if b = 0 then _ else _) = _; rw [if_neg hb0]
   rw [if_neg hn, hr]
   show (IntKind.u64.wrap ((a : Int).tmod (b : Int)), (0 : Int)) = _
   rw [tmodNat]
   generalize a % b = q at *
   exact fin _ _ (by omega) (by omega)
 rw [if_neg (fun h => by rcases h.1 with h | h <;> omega), if_neg h4, if_neg h5]
 unfold rV
 rw [if_neg h4, if_neg h5]
 by_cases h1 : op = 1
 ·subst h1; exact fin (IntKind.u64.wrap ((a : Int) + (b : Int))) (IntKind.u32.wrap ((a : Int) + (b : Int))) (wu64 _) (by rw [wrapU64_eq, wrapU32_eq]; omega)
 by_cases h2 : op = 2
 ·subst h2; exact fin (IntKind.u64.wrap ((a : Int) - (b : Int))) (IntKind.u32.wrap ((a : Int) - (b : Int))) (wu64 _) (by rw [wrapU64_eq, wrapU32_eq]; omega)
 by_cases h3 : op = 3
 ·subst h3; exact fin (IntKind.u64.wrap ((a : Int) * (b : Int))) (IntKind.u32.wrap ((a : Int) * (b : Int))) (wu64 _) (by rw [wrapU64_eq, wrapU32_eq]; omega)
 rw [if_neg h1, if_neg h2, if_neg h3, if_neg h1, if_neg h2, if_neg h3]
 by_cases h6 : op = 6
 ·rw [if_pos h6, if_pos h6]
  have hl := Nat.and_lt_two_pow a hb
  unfold bAnd
  rw [BitVec.toNat_and, bv32 ha, bv32 hb]
  exact fin _ _ (by omega) (by rw [wrapU32_eq])
 by_cases h7 : op = 7
 ·rw [if_neg h6, if_neg h6, if_pos h7, if_pos h7]
  have hl := Nat.or_lt_two_pow ha hb
  unfold bOr
  rw [BitVec.toNat_or, bv32 ha, bv32 hb]
  exact fin _ _ (by omega) (by rw [wrapU32_eq])
 by_cases h8 : op = 8
 ·rw [if_neg h6, if_neg h6, if_neg h7, if_neg h7, if_pos h8, if_pos h8]
  have hl := Nat.xor_lt_two_pow ha hb
  unfold bXor
  rw [BitVec.toNat_xor, bv32 ha, bv32 hb]
  exact fin _ _ (by omega) (by rw [wrapU32_eq])
 rw [if_neg h6, if_neg h6, if_neg h7, if_neg h7, if_neg h8, if_neg h8]
 by_cases h9 : op = 9
 ·rw [if_pos h9, if_pos h9, shlNat .u32 a _ (by show b % 32 <= 32; omega)]
  generalize a <<< (b % 32) = q
  exact fin _ _ (by omega) (by rw [wrapU32_eq]; omega)
 by_cases h10 : op = 10
 ·rw [if_neg h9, if_neg h9, if_pos h10, if_pos h10, shrNat .u32 a _ (by show b % 32 <= 32; omega), sarF]
  have := Nat.div_le_self a (2 ^ (b % 32))
  generalize a / 2 ^ (b % 32) = q at *
  exact fin _ _ (by omega) (by omega)
 by_cases h11 : op = 11
 ·rw [if_neg h9, if_neg h9, if_neg h10, if_neg h10, if_pos h11, if_pos h11, sar32 ha hs]
  have hl := sarN_lt (b := a.testBit 31) ha hs
  show _ = cutV true (((sarN 32 a (b % 32) (a.testBit 31) : Nat) : Int), 0)
  generalize sarN 32 a (b % 32) (a.testBit 31) = q at *
  exact fin _ _ (by omega) (by omega)
 rw [if_neg h9, if_neg h9, if_neg h10, if_neg h10, if_neg h11, if_neg h11]
 by_cases h12 : op = 12
 ·subst h12; exact fin (b : Int) (b : Int) (by omega) (by omega)
 by_cases h13 : op = 13
 ·subst h13; exact fin (IntKind.u64.wrap (0 - (a : Int))) (IntKind.u32.wrap (0 - (a : Int))) (wu64 _) (by rw [wrapU64_eq, wrapU32_eq]; omega)
 rw [if_neg h12, if_neg h12, if_neg h13, if_neg h13]; rfl
theorem low_nat (a : Nat) (ha : a < 2 ^ 64) : bAnd .u64 (a : Int) 4294967295 = ((a % 2 ^ 32 : Nat) : Int) := by rw [and_lowI _ (by omega)]; omega
theorem u32_nat (a : Nat) : IntKind.u32.wrap (a : Int) = ((a % 2 ^ 32 : Nat) : Int) := by rw [wrapU32_eq]; omega
theorem rdo_p (op : Int) (nw : Bool) (a b : Int) (ha : U64 a) (hb : U64 b) : qc BIG op nw a b = some (aluP op nw a b) := by
 obtain ⟨n, e⟩ : ∃ n : Nat, (BIG : Nat) = n + 1 + 1 + 1 + 1 := ⟨999999996, rfl⟩
 obtain ⟨a, rfl⟩ := Int.eq_ofNat_of_zero_le ha.1
 obtain ⟨b, rfl⟩ := Int.eq_ofNat_of_zero_le hb.1
 have ha : a < 2 ^ 64 := by have := ha.2; omega
 have hb : b < 2 ^ 64 := by have := hb.2; omega
 rw [qc_eq, e]
 unfold aluP
 cases nw with
 | false =>
  rw [forkB_false, if_neg (by decide), doW64 op ha hb]
  exact rdo_J0 n op false (z := 64) (.inr rfl) ha hb
 | true =>
  rw [forkB_true, if_pos rfl, low_nat a ha, low_nat b hb, u32_nat, u32_nat, doW32 op (Nat.mod_lt _ (by decide)) (Nat.mod_lt _ (by decide))]
  exact rdo_J0 n op true (z := 32) (.inl rfl) (Nat.mod_lt _ (by decide)) (Nat.mod_lt _ (by decide))
end Go.Y
namespace Go.Y
open Go.RowKit Go.V Go.X Go.Proofs
def isQ (op a b : Int) (c : Bool) : Bool × Int :=
 if op = 17 then (a == b, 0) else if op = 18 then (a != b, 0) else if op = 19 \/ op = 23 then (decide (a > b), 0) else if op = 20 \/ op = 24 then (decide (a >= b), 0) else if op = 21 \/ op = 25 then (decide (a < b), 0) else if op = 22 \/ op = 26 then (decide (a <= b), 0)
 else if op = 27 then (c, 0) else (false, 2)
theorem ris_J1 (n : Nat) (op : Int) {a b : Nat} (ha : a < 2 ^ 64) (hb : b < 2 ^ 64) : qb_J1 (n + 1 + 1 + 1 + 1 + 1) op (a : Int) (b : Int) = some (isQ op (a : Int) (b : Int) (((a &&& b : Nat) : Int) != 0)) := by
 by_cases h17 : op = 17
 ·subst h17
  rw [qb_J1_eq, show ((17 : Int) == 17) = true from rfl, forkB_true]; rfl
 by_cases h18 : op = 18
 ·subst h18
  rw [qb_J1_eq, show ((18 : Int) == 17) = false from rfl, forkB_false, show ((18 : Int) == 18) = true from rfl, forkB_true]; rfl
 by_cases h19 : op = 19
 ·subst h19
  rw [qb_J1_eq, show ((19 : Int) == 17) = false from rfl, forkB_false, show ((19 : Int) == 18) = false from rfl, forkB_false, show ((19 : Int) == 19) = true from rfl, forkB_true, qb_J3_eq, forkB_true]; rfl
 by_cases h20 : op = 20
 ·subst h20
  rw [qb_J1_eq, show ((20 : Int) == 17) = false from rfl, forkB_false, show ((20 : Int) == 18) = false from rfl, forkB_false, show ((20 : Int) == 19) = false from rfl, forkB_false, show ((20 : Int) == 23) = false from rfl, qb_J3_eq, forkB_false, show ((20 : Int) == 20) = true from rfl, forkB_true, qb_J4_eq, forkB_true]; rfl
 by_cases h21 : op = 21
 ·subst h21
  rw [qb_J1_eq, show ((21 : Int) == 17) = false from rfl, forkB_false, show ((21 : Int) == 18) = false from rfl, forkB_false, show ((21 : Int) == 19) = false from rfl, forkB_false, show ((21 : Int) == 23) = false from rfl, qb_J3_eq, forkB_false, show ((21 : Int) == 20) = false from rfl, forkB_false, show ((21 : Int) == 24) = false from rfl, qb_J4_eq, forkB_false, show ((21 : Int) == 21) = true from rfl, forkB_true, qb_J5_eq, forkB_true]; rfl
 by_cases h22 : op = 22
 ·subst h22
  rw [qb_J1_eq, show ((22 : Int) == 17) = false from rfl, forkB_false, show ((22 : Int) == 18) = false from rfl, forkB_false, show ((22 : Int) == 19) = false from rfl, forkB_false, show ((22 : Int) == 23) = false from rfl, qb_J3_eq, forkB_false, show ((22 : Int) == 20) = false from rfl, forkB_false, show ((22 : Int) == 24) = false from rfl, qb_J4_eq, forkB_false, show ((22 : Int) == 21) = false from rfl, forkB_false, show ((22 : Int) == 25) = false from rfl, qb_J5_eq, forkB_false, show ((22 : Int) == 22) = true from rfl, forkB_true, qb_J6_eq, forkB_true]; rfl
 by_cases h23 : op = 23
 ·subst h23
  rw [qb_J1_eq, show ((23 : Int) == 17) = false from rfl, forkB_false, show ((23 : Int) == 18) = false from rfl, forkB_false, show ((23 : Int) == 19) = false from rfl, forkB_false, show ((23 : Int) == 23) = true from rfl, qb_J3_eq, forkB_true]; rfl
 by_cases h24 : op = 24
 ·subst h24
  rw [qb_J1_eq, show ((24 : Int) == 17) = false from rfl, forkB_false, show ((24 : Int) == 18) = false from rfl, forkB_false, show ((24 : Int) == 19) = false from rfl, forkB_false, show ((24 : Int) == 23) = false from rfl, qb_J3_eq, forkB_false, show ((24 : Int) == 20) = false from rfl, forkB_false, show ((24 : Int) == 24) = true from rfl, qb_J4_eq, forkB_true]; rfl
 by_cases h25 : op = 25
 ·subst h25
  rw [qb_J1_eq, show ((25 : Int) == 17) = false from rfl, forkB_false, show ((25 : Int) == 18) = false from rfl, forkB_false, show ((25 : Int) == 19) = false from rfl, forkB_false, show ((25 : Int) == 23) = false from rfl, qb_J3_eq, forkB_false, show ((25 : Int) == 20) = false from rfl, forkB_false, show ((25 : Int) == 24) = false from rfl, qb_J4_eq, forkB_false, show ((25 : Int) == 21) = false from rfl, forkB_false, show ((25 : Int) == 25) = true from rfl, qb_J5_eq, forkB_true]; rfl
 by_cases h26 : op = 26
 ·subst h26
  rw [qb_J1_eq, show ((26 : Int) == 17) = false from rfl, forkB_false, show ((26 : Int) == 18) = false from rfl, forkB_false, show ((26 : Int) == 19) = false from rfl, forkB_false, show ((26 : Int) == 23) = false from rfl, qb_J3_eq, forkB_false, show ((26 : Int) == 20) = false from rfl, forkB_false, show ((26 : Int) == 24) = false from rfl, qb_J4_eq, forkB_false, show ((26 : Int) == 21) = false from rfl, forkB_false, show ((26 : Int) == 25) = false from rfl, qb_J5_eq, forkB_false, show ((26 : Int) == 22) = false from rfl, forkB_false, show ((26 : Int) == 26) = true from rfl, qb_J6_eq, forkB_true]; rfl
 by_cases h27 : op = 27
 ·subst h27
  rw [qb_J1_eq, show ((27 : Int) == 17) = false from rfl, forkB_false, show ((27 : Int) == 18) = false from rfl, forkB_false, show ((27 : Int) == 19) = false from rfl, forkB_false, show ((27 : Int) == 23) = false from rfl, qb_J3_eq, forkB_false, show ((27 : Int) == 20) = false from rfl, forkB_false, show ((27 : Int) == 24) = false from rfl, qb_J4_eq, forkB_false, show ((27 : Int) == 21) = false from rfl, forkB_false, show ((27 : Int) == 25) = false from rfl, qb_J5_eq, forkB_false, show ((27 : Int) == 22) = false from rfl, forkB_false, show ((27 : Int) == 26) = false from rfl, qb_J6_eq, forkB_false, show ((27 : Int) == 27) = true from rfl, forkB_true, each_p (T := a &&& b) ha hb (fun k _ => by rw [Nat.testBit_and]; rfl) (Nat.and_lt_two_pow _ hb), obind_of]; rfl
 have n3 : (op == 23) = false := by simpa using h23
 have n4 : (op == 24) = false := by simpa using h24
 have n5 : (op == 25) = false := by simpa using h25
 have n6 : (op == 26) = false := by simpa using h26
 unfold isQ
 rw [if_neg h17, if_neg h18, if_neg (by omega), if_neg (by omega), if_neg (by omega), if_neg (by omega), if_neg h27]
 rw [qb_J1_eq, forkB_if, if_neg (by simpa using h17), forkB_if, if_neg (by simpa using h18), forkB_if, if_neg (by simpa using h19), n3, qb_J3_eq, forkB_false, forkB_if, if_neg (by simpa using h20), n4, qb_J4_eq, forkB_false, forkB_if, if_neg (by simpa using h21), n5, qb_J5_eq, forkB_false, forkB_if, if_neg (by simpa using h22), n6, qb_J6_eq, forkB_false, forkB_if, if_neg (by simpa using h27)]
theorem ris_J0 (n : Nat) (op : Int) {a b t : Nat} (ha : a < 2 ^ 64) (hb : b < 2 ^ 64) (ht : t < 2 ^ 64) : qb_J0 (n + 1 + 1 + 1 + 1 + 1 + 1 + 1) op (a : Int) (b : Int) (t : Int) = some (if 23 <= op /\ op <= 26 then isQ op ((a ^^^ t : Nat) : Int) ((b ^^^ t : Nat) : Int) false else isQ op (a : Int) (b : Int) (((a &&& b : Nat) : Int) != 0)) := by
 rw [qb_J0_eq, forkB_if]
 by_cases h : op >= 23
 ·rw [if_pos (by simpa using h), qb_J2_eq, forkB_if]
  by_cases h2 : op <= 26
  ·rw [if_pos (by simpa using h2), if_pos ⟨h, h2⟩, bXor64 (by omega) (by omega), bXor64 (by omega) (by omega)]
   simp only [Int.toNat_natCast]
   rw [ris_J1 _ _ (Nat.xor_lt_two_pow ha ht) (Nat.xor_lt_two_pow hb ht)]
   unfold isQ
   rw [if_neg (show ¬ op = 27 by omega), if_neg (show ¬ op = 27 by omega)]
  ·rw [if_neg (by simpa using h2), if_neg (by omega), ris_J1 _ _ ha hb]
 ·rw [if_neg (by simpa using h), qb_J2_eq, forkB_false, if_neg (by omega), ris_J1 _ _ ha hb]
theorem xorTop {a z : Nat} (ha : a < 2 ^ (z + 1)) : ((a ^^^ 2 ^ z : Nat) : Int) = if 2 ^ z <= a then (a : Int) - (2 ^ z : Nat) else (a : Int) + (2 ^ z : Nat) := by
 have hp := Nat.two_pow_pos z
 have h1 : (a ^^^ 2 ^ z) / 2 ^ z = (a / 2 ^ z) ^^^ 1 := by rw [Nat.xor_div_two_pow, Nat.div_self hp]
 have h2 : (a ^^^ 2 ^ z) % 2 ^ z = a % 2 ^ z := by rw [Nat.xor_mod_two_pow, Nat.mod_self, Nat.xor_zero]
 have h3 := Nat.div_add_mod (a ^^^ 2 ^ z) (2 ^ z)
 have h4 := Nat.div_add_mod a (2 ^ z)
 have h5 : a / 2 ^ z < 2 := Nat.div_lt_of_lt_mul (by rw [Nat.pow_succ] at ha; exact ha)
 rw [h1, h2] at h3
 by_cases h : 2 ^ z <= a
 ·have h6 : 1 <= a / 2 ^ z := (Nat.one_le_div_iff hp).2 h
  have h7 : a / 2 ^ z = 1 := by omega
  rw [h7] at h3 h4
  rw [if_pos h, <- h3]
  rw [show (1 ^^^ 1 : Nat) = 0 from rfl]
  generalize a % 2 ^ z = r at *
  generalize 2 ^ z = q at *
  omega
 ·have h7 : a / 2 ^ z = 0 := Nat.div_eq_of_lt (by omega)
  rw [h7] at h3 h4
  rw [if_neg h, <- h3]
  rw [show (0 ^^^ 1 : Nat) = 1 from rfl]
  generalize a % 2 ^ z = r at *
  generalize 2 ^ z = q at *
  omega
theorem top64 {a : Nat} (ha : a < 2 ^ 64) : ((a ^^^ 9223372036854775808 : Nat) : Int) = IntKind.i64.wrap (a : Int) + 9223372036854775808 := by
 have := xorTop (z := 63) ha
 rw [show (2 : Nat) ^ 63 = 9223372036854775808 from rfl] at this
 rw [this, wrapI64_eq]
 split <;> split <;> omega
theorem top32 {a : Nat} (ha : a < 2 ^ 32) : ((a ^^^ 2147483648 : Nat) : Int) = IntKind.i32.wrap (a : Int) + 2147483648 := by
 have := xorTop (z := 31) ha
 rw [show (2 : Nat) ^ 31 = 2147483648 from rfl] at this
 rw [this, wrapI32_eq]
 split <;> split <;> omega
theorem isW_Q (ki k : IntKind) (op : Int) {a b : Nat} {p q c : Int} (hp : p = ki.wrap (a : Int) + c) (hq : q = ki.wrap (b : Int) + c) (hand : bAnd k (a : Int) (b : Int) = ((a &&& b : Nat) : Int)) : isW ki k op (a : Int) (b : Int) = if 23 <= op /\ op <= 26 then isQ op p q false else isQ op (a : Int) (b : Int) (((a &&& b : Nat) : Int) != 0) := by
 unfold isW isQ
 subst hp hq
 generalize ki.wrap (a : Int) = x
 generalize ki.wrap (b : Int) = y
 rw [hand]
 by_cases h : 23 <= op /\ op <= 26
 ·rw [if_pos h, if_neg (show ¬ op = 17 by omega), if_neg (show ¬ op = 18 by omega), if_neg (show ¬ op = 19 by omega), if_neg (show ¬ op = 20 by omega), if_neg (show ¬ op = 21 by omega), if_neg (show ¬ op = 22 by omega), if_neg (show ¬ op = 17 by omega), if_neg (show ¬ op = 18 by omega)]
  have hc : op = 23 \/ op = 24 \/ op = 25 \/ op = 26 := by omega
  rcases hc with h | h | h | h <;> subst h
  ·rw [if_pos rfl, if_pos (.inr rfl)]; congr 1; rw [decide_eq_decide]; omega
  ·rw [if_neg (by decide), if_pos rfl, if_neg (by decide), if_pos (.inr rfl)]; congr 1; rw [decide_eq_decide]; omega
  ·rw [if_neg (by decide), if_neg (by decide), if_pos rfl, if_neg (by decide), if_neg (by decide), if_pos (.inr rfl)]; congr 1; rw [decide_eq_decide]; omega
  ·rw [if_neg (by decide), if_neg (by decide), if_neg (by decide), if_pos rfl, if_neg (by decide), if_neg (by decide), if_neg (by decide), if_pos (.inr rfl)]; congr 1; rw [decide_eq_decide]; omega
 ·rw [if_neg h]
  simp only [show (op = 19 \/ op = 23) = (op = 19) by simp; omega, show (op = 20 \/ op = 24) = (op = 20) by simp; omega, show (op = 21 \/ op = 25) = (op = 21) by simp; omega, show (op = 22 \/ op = 26) = (op = 22) by simp; omega, if_neg (show ¬ op = 23 by omega), if_neg (show ¬ op = 24 by omega), if_neg (show ¬ op = 25 by omega), if_neg (show ¬ op = 26 by omega)]
theorem and32 {a b : Nat} (ha : a < 2 ^ 32) (hb : b < 2 ^ 32) : bAnd .u32 (a : Int) (b : Int) = ((a &&& b : Nat) : Int) := by
 have hl := Nat.and_lt_two_pow a hb
 unfold bAnd
 rw [BitVec.toNat_and, bv32 ha, bv32 hb, wrapU32_eq]
 omega
theorem ris_p (op : Int) (nw : Bool) (a b : Int) (ha : U64 a) (hb : U64 b) : qb BIG op nw a b = some (isP op nw a b) := by
 obtain ⟨n, e⟩ : ∃ n : Nat, (BIG : Nat) = n + 1 + 1 + 1 + 1 + 1 + 1 + 1 := ⟨999999993, rfl⟩
 obtain ⟨a, rfl⟩ := Int.eq_ofNat_of_zero_le ha.1
 obtain ⟨b, rfl⟩ := Int.eq_ofNat_of_zero_le hb.1
 have ha : a < 2 ^ 64 := by have := ha.2; omega
 have hb : b < 2 ^ 64 := by have := hb.2; omega
 rw [qb_eq, e]
 unfold isP
 cases nw with
 | false =>
  rw [forkB_false, if_neg (by decide), isW_Q .i64 .u64 op (top64 ha) (top64 hb) (by rw [bAnd64 (by omega) (by omega)]; rfl)]
  exact ris_J0 n op (t := 9223372036854775808) ha hb (by decide)
 | true =>
  have ha' := Nat.mod_lt a (show 2 ^ 32 > 0 by decide)
  have hb' := Nat.mod_lt b (show 2 ^ 32 > 0 by decide)
  rw [forkB_true, if_pos rfl, low_nat a ha, low_nat b hb, u32_nat, u32_nat, isW_Q .i32 .u32 op (top32 ha') (top32 hb') (and32 ha' hb')]
  exact ris_J0 n op (t := 2147483648) (Nat.lt_trans ha' (by decide)) (Nat.lt_trans hb' (by decide)) (by decide)
end Go.Y
namespace Go.Y
open Go.RowKit Go.V Go.X Go.Proofs
def rv (v : Val) : RVal := ⟨v.kind, v.n⟩
theorem rvK (v : Val) : (rv v).Kind = v.kind := rfl
theorem rvN (v : Val) : (rv v).N = v.n := rfl
def rout {α : Type} (R : List Val) (B : List Int) (S : List Bool) (P : List Int) (r : α) : Option (((Unit × Unit × Unit × Unit × Unit) × List RVal × List Int × List Bool × List Int × Unit) × α) := some ((((), (), (), (), ()), R.map rv, B, S, P, ()), r)
theorem getR (R : List Val) (k : Nat) : (R.map rv).getD k dRVal = rv (R.getD k dVal) := by
 rw [List.getD_eq_getElem?_getD, List.getD_eq_getElem?_getD, List.getElem?_map]
 cases R[k]? <;> rfl
theorem setR (R : List Val) (k : Nat) (v : Val) (w : RVal) (h : w = rv v) : (R.map rv).set k w = (R.set k v).map rv := by subst h; rw [List.map_set]
def dR : RVal := ⟨0, 0⟩
theorem obind_rout {α β : Type} (R : List Val) (B : List Int) (S : List Bool) (P : List Int) (r : α) (f : _ -> Option β) : obind (rout R B S P r) f = f ((((), (), (), (), ()), R.map rv, B, S, P, ()), r) := rfl
def aR (R : List Val) (r : Int) : RVal := if ask1 R r = 0 then rv (rg R r) else dR
def sR (i : Ins) (R : List Val) : RVal := if secE i R = 0 then rv (secV i R) else dR
theorem aR_ok {R : List Val} {r : Int} (h : ask1 R r = 0) : aR R r = rv (rg R r) := if_pos h
theorem sR_ok {i : Ins} {R : List Val} (h : secE i R = 0) : sR i R = rv (secV i R) := if_pos h
theorem rat_p (n off size first long : Int) (hf : -1000 <= first /\ first <= 0) (hs : 0 <= size /\ size <= 8) (hl : 0 <= long /\ long <= 100000) : qac BIG n off size first long =
  some (if IntKind.i64.wrap (IntKind.u64.wrap (n + IntKind.u64.wrap off)) < first \/ IntKind.i64.wrap (IntKind.u64.wrap (n + IntKind.u64.wrap off)) > first + long - size then (0, 112) else (IntKind.i64.wrap (IntKind.u64.wrap (n + IntKind.u64.wrap off)) - first, 0)) := by
 obtain ⟨n', e⟩ : ∃ n : Nat, (BIG : Nat) = n + 1 := ⟨999999999, rfl⟩
 rw [qac_eq, forkB_if, e, wrap64 (x := first + long) (by omega), wrap64 (x := first + long - size) (by omega)]
 generalize IntKind.i64.wrap (IntKind.u64.wrap (n + IntKind.u64.wrap off)) = x
 by_cases h1 : x < first
 ·rw [if_pos (by simpa using h1), qac_J0_eq, forkB_true, if_pos (.inl h1)]
 ·rw [if_neg (by simpa using h1), qac_J0_eq, forkB_if]
  by_cases h2 : x > first + long - size
  ·rw [if_pos (by simpa using h2), if_pos (.inr h2)]
  ·rw [if_neg (by simpa using h2), if_neg (by omega), wrap64 (by omega)]
section
variable (R : List Val) (B : List Int) (S : List Bool) (P : List Int) (hR : R.length = 11)
include hR
theorem lenR : (R.map rv).length = 11 := by rw [List.length_map, hR]
theorem rask_p {r : Int} (h : 0 <= r /\ r <= 10) : qar BIG (R.map rv) B S P r = rout R B S P (aR R r, ask1 R r, ()) := by
 have hl := lenR R hR
 have hc : 0 <= r /\ r < (((R.map rv).length : Nat) : Int) := by rw [hl]; omega
 rw [qar_eq, if_pos hc, if_pos hc, getR, forkB_if]
 show (if ((rg R r).kind == 0) = true then _ else _) = _
 unfold aR ask1
 by_cases h0 : (rg R r).kind = 0
 ·rw [if_pos (by simpa using h0), if_pos h0]; rfl
 ·rw [if_neg (by simpa using h0), if_neg h0]; rfl
theorem rsec_p {i : Ins} (h : i.UseImm = false -> 0 <= i.Src /\ i.Src <= 10) : qbp BIG (R.map rv) B S P i = rout R B S P (sR i R, secE i R, ()) := by
 rw [qbp_eq]
 unfold sR secE secV
 cases hu : i.UseImm with
 | true => rw [forkB_true, qea_eq, obind_of]; rfl
 | false =>
  rw [forkB_false, rask_p R B S P hR (h hu), obind_rout]; rfl
theorem rboth_ok {i : Ins} (hd : 0 <= i.Dst /\ i.Dst <= 10) (h : i.UseImm = false -> 0 <= i.Src /\ i.Src <= 10) (h0 : bothE i R = 0) : qav BIG (R.map rv) B S P i = rout R B S P (rv (rg R i.Dst), rv (secV i R), 0, ()) := by
 unfold bothE at h0
 have ha : ask1 R i.Dst = 0 := by
  by_cases ha : ask1 R i.Dst = 0
  ·exact ha
  ·rw [if_pos ha] at h0; exact absurd h0 ha
 rw [if_neg (fun h => h ha)] at h0
 rw [qav_eq, rask_p R B S P hR hd, obind_rout]
 dsimp only
 rw [ha, show ((0 : Int) != 0) = false from rfl, forkB_false, rsec_p R B S P hR h, obind_rout]
 dsimp only
 rw [h0, aR_ok ha, sR_ok h0]; rfl
theorem rboth_no {i : Ins} (hd : 0 <= i.Dst /\ i.Dst <= 10) (h : i.UseImm = false -> 0 <= i.Src /\ i.Src <= 10) (h0 : bothE i R ≠ 0) : ∃ x y, qav BIG (R.map rv) B S P i = rout R B S P (x, y, bothE i R, ()) := by
 rw [qav_eq, rask_p R B S P hR hd, obind_rout]
 dsimp only
 by_cases ha : ask1 R i.Dst = 0
 ·have hb : bothE i R = secE i R := if_neg (fun h => h ha)
  refine ⟨aR R i.Dst, sR i R, ?_⟩
  rw [hb, ha, show ((0 : Int) != 0) = false from rfl, forkB_false, rsec_p R B S P hR h, obind_rout]; rfl
 ·have hb : bothE i R = ask1 R i.Dst := if_pos ha
  refine ⟨aR R i.Dst, aR R i.Dst, ?_⟩
  rw [hb, forkB_if, if_pos (show (ask1 R i.Dst != 0) = true by simpa using ha)]; rfl
theorem rmove_p {i : Ins} (hd : 0 <= i.Dst /\ i.Dst <= 10) (h : i.UseImm = false -> 0 <= i.Src /\ i.Src <= 10) (hv : U64 (secV i R).n) : qaa BIG (R.map rv) B S P i = rout (mvP i ⟨R, B, S⟩).2.R (mvP i ⟨R, B, S⟩).2.B (mvP i ⟨R, B, S⟩).2.S P ((mvP i ⟨R, B, S⟩).1, ()) := by
 obtain ⟨n, e⟩ : ∃ n : Nat, (BIG : Nat) = n + 1 + 1 := ⟨999999998, rfl⟩
 have hl := lenR R hR
 rw [qaa_eq, rsec_p R B S P hR h, obind_rout]
 unfold mvP
 dsimp only
 rw [forkB_if]
 by_cases h0 : secE i R = 0
 ·rw [if_neg (show ¬ (secE i R != 0) = true by simpa using h0), if_neg (show ¬ secE i R ≠ 0 from fun h => h h0), sR_ok h0, e]
  have hc : 0 <= i.Dst /\ i.Dst < (((R.map rv).length : Nat) : Int) := by rw [hl]; omega
  cases hn : i.Narrow with
  | true =>
   rw [forkB_true, qaa_J0_eq, forkB_if]
   show (if ((secV i R).kind != 1) = true then _ else _) = _
   by_cases hk : (secV i R).kind = 1
   ·rw [if_neg (by simpa using hk), if_neg (show ¬ (true = true /\ (secV i R).kind ≠ 1) from fun h => h.2 hk), forkB_true, qaa_J1_eq, if_pos hc]
    have ev : (⟨(rv (secV i R)).Kind, bAnd .u64 (rv (secV i R)).N 4294967295⟩ : RVal) = rv ⟨(secV i R).kind, if true = true then IntKind.u64.wrap (IntKind.u32.wrap (secV i R).n) else (secV i R).n⟩ := by
     show (⟨(secV i R).kind, bAnd .u64 (secV i R).n 4294967295⟩ : RVal) = ⟨(secV i R).kind, IntKind.u64.wrap (IntKind.u32.wrap (secV i R).n)⟩
     rw [and_lowI _ hv, wrapU32_eq, wrapU64 ⟨by omega, by omega⟩]
    rw [setR _ _ _ _ ev]; rfl
   ·rw [if_pos (by simpa using hk), if_pos (show true = true /\ (secV i R).kind ≠ 1 from ⟨rfl, hk⟩)]; rfl
  | false =>
   rw [forkB_false, qaa_J0_eq, forkB_false, forkB_false, qaa_J1_eq, if_pos hc, if_neg (show ¬ (false = true /\ (secV i R).kind ≠ 1) from fun h => absurd h.1 (by decide)), setR _ _ (secV i R) _ rfl]; rfl
 ·rw [if_pos (show (secE i R != 0) = true by simpa using h0), if_pos h0]; rfl
theorem rreckon_p {i : Ins} (hd : 0 <= i.Dst /\ i.Dst <= 10) (h : i.UseImm = false -> 0 <= i.Src /\ i.Src <= 10) (hv : U64 (secV i R).n) (hw : U64 (rg R i.Dst).n) : qm BIG (R.map rv) B S P i = rout (rkP i ⟨R, B, S⟩).2.R (rkP i ⟨R, B, S⟩).2.B (rkP i ⟨R, B, S⟩).2.S P ((rkP i ⟨R, B, S⟩).1, ()) := by
 obtain ⟨n, e⟩ : ∃ n : Nat, (BIG : Nat) = n + 1 + 1 + 1 := ⟨999999997, rfl⟩
 have hl := lenR R hR
 have hc : 0 <= i.Dst /\ i.Dst < (((R.map rv).length : Nat) : Int) := by rw [hl]; omega
 rw [qm_eq]
 unfold rkP
 simp only
 by_cases h0 : bothE i R = 0
 ·rw [rboth_ok R B S P hR hd h h0, obind_rout, if_neg (show ¬ bothE i R ≠ 0 from fun h => h h0)]
  dsimp only
  rw [show ((0 : Int) != 0) = false from rfl, forkB_false]
  simp only [rvK, rvN]
  have j2t : qm_J2 (n + 1 + 1) true (R.map rv) B S P i.Op i.Narrow i.Dst i.Src i.UseImm i.Off i.Imm i.Size (rg R i.Dst).kind (rg R i.Dst).n (secV i R).kind (secV i R).n = rout R B S P (114, ()) := by rw [qm_J2_eq, forkB_true]; rfl
  rw [e, forkB_if]
  generalize rg R i.Dst = a at *
  generalize secV i R = b at *
  by_cases ha : a.kind = 1
  ·rw [if_pos (by simpa using ha), qm_J0_eq, forkB_if]
   by_cases hb : b.kind = 1
   ·rw [if_pos (by simpa using hb), rdo_p _ _ _ _ hw hv, obind_of, forkB_if, if_neg (show ¬ (b.kind ≠ 1 \/ a.kind ≠ 1 /\ ¬((i.Op = 1 \/ i.Op = 2) /\ i.Narrow = false)) from fun h => by rcases h with h | h; exact h hb; exact h.1 ha)]
    by_cases hz : (aluP i.Op i.Narrow a.n b.n).2 = 0
    ·rw [if_pos (by simpa using hz), if_pos hz, if_pos hc, qm_J1_eq, hz, setR _ _ ⟨a.kind, (aluP i.Op i.Narrow a.n b.n).1⟩ _ (by rw [ha]; rfl)]; rfl
    ·rw [if_neg (by simpa using hz), if_neg hz, qm_J1_eq]; rfl
   ·rw [if_neg (by simpa using hb), forkB_if, if_pos (by simpa using ha), j2t, if_pos (.inl hb)]
  ·rw [if_neg (by simpa using ha), qm_J0_eq, forkB_false, forkB_if, if_neg (by simpa using ha), forkB_if]
   by_cases hb : b.kind = 1
   ·rw [if_neg (by simpa using hb), forkB_if]
    cases hn : i.Narrow with
    | true =>
     rw [hn] at j2t
     rw [if_pos rfl, j2t, if_pos (.inr ⟨ha, fun h => absurd h.2 (by decide)⟩)]
    | false =>
     rw [hn] at j2t
     rw [if_neg (by decide), forkB_if]
     by_cases h1 : i.Op = 1
     ·rw [if_neg (show ¬ (i.Op != 1) = true by simp [h1]), qm_J2_eq, forkB_false, forkB_if, if_neg (show ¬ (i.Op == 2) = true by simp [h1]), qm_J3_eq, if_pos hc, if_neg (show ¬ (b.kind ≠ 1 \/ a.kind ≠ 1 /\ ¬((i.Op = 1 \/ i.Op = 2) /\ false = false)) from fun h => by rcases h with h | h; exact h hb; exact h.2 ⟨.inl h1, rfl⟩), h1]
      have ea : aluP 1 false a.n b.n = (IntKind.u64.wrap (a.n + b.n), 0) := rfl
      rw [ea, if_pos rfl, setR _ _ ⟨a.kind, IntKind.u64.wrap (a.n + b.n)⟩ (⟨a.kind, IntKind.u64.wrap (a.n + b.n)⟩ : RVal) rfl]; rfl
     ·rw [if_pos (show (i.Op != 1) = true by simp [h1])]
      by_cases h2 : i.Op = 2
      ·rw [show (i.Op != 2) = false by simp [h2], qm_J2_eq, forkB_false, forkB_if, if_pos (show (i.Op == 2) = true by simp [h2]), qm_J3_eq, if_pos hc, if_neg (show ¬ (b.kind ≠ 1 \/ a.kind ≠ 1 /\ ¬((i.Op = 1 \/ i.Op = 2) /\ false = false)) from fun h => by rcases h with h | h; exact h hb; exact h.2 ⟨.inr h2, rfl⟩), h2]
       have ea : aluP 2 false a.n b.n = (IntKind.u64.wrap (a.n - b.n), 0) := rfl
       rw [ea, if_pos rfl, setR _ _ ⟨a.kind, IntKind.u64.wrap (a.n - b.n)⟩ (⟨a.kind, IntKind.u64.wrap (a.n - b.n)⟩ : RVal) rfl]; rfl
      ·rw [show (i.Op != 2) = true by simp [h2], j2t, if_pos (.inr ⟨ha, fun h => by rcases h.1 with h | h; exact h1 h; exact h2 h⟩)]
   ·rw [if_pos (by simpa using hb), j2t, if_pos (.inl hb)]
 ·obtain ⟨x, y, hxy⟩ := rboth_no R B S P hR hd h h0
  rw [hxy, obind_rout, if_pos h0]
  dsimp only
  rw [forkB_if, if_pos (show (bothE i R != 0) = true by simpa using h0)]; rfl
end
end Go.Y
namespace Go.Y
open Go.RowKit Go.V Go.X Go.Proofs
theorem addByte {A x : Int} {k : Nat} (hk : k + 1 <= 8) (hA : 0 <= A /\ A < 256 ^ k) (hx : 0 <= x /\ x <= 255) : bOr .u64 (sShl .u64 A 8) x = A * 256 + x := by
 have h7 : (256 : Int) ^ k <= 256 ^ 7 := by
  have h := Nat.pow_le_pow_right (n := 256) (by decide) (show k <= 7 by omega)
  have e1 : ((256 ^ k : Nat) : Int) = (256 : Int) ^ k := by rw [Int.natCast_pow]; rfl
  have e2 : ((256 ^ 7 : Nat) : Int) = (256 : Int) ^ 7 := by rw [Int.natCast_pow]; rfl
  rw [<- e1, <- e2]; exact Int.ofNat_le.2 h
 have e7 : (256 : Int) ^ 7 = 72057594037927936 := by decide
 have hs : sShl .u64 A 8 = A * 256 := by
  unfold sShl
  have hmin : (2 : Int) ^ (min ((8 : Int)).toNat (IntKind.u64.bits)) = 256 := by decide
  rw [hmin]
  exact wrapU64 ⟨by omega, by omega⟩
 have h8 : (2 : Int) ^ 8 = 256 := by decide
 rw [hs, orAdd .u64 8 _ _ (by show 8 <= 64; omega) (by rw [h8]; omega) ⟨hx.1, by rw [h8]; omega⟩]
 have hb : (2 : Int) ^ IntKind.u64.bits = 18446744073709551616 := by decide
 rw [hb, Int.emod_eq_of_lt (by omega) (by omega), wrapU64 ⟨by omega, by omega⟩]
def KOk (R : List Val) : Prop := ∀ v ∈ R, 0 <= v.kind /\ v.kind <= 3
theorem KOk.rg {R : List Val} (h : KOk R) (r : Int) : 0 <= (rg R r).kind /\ (rg R r).kind <= 3 := by
 show 0 <= (R.getD r.toNat dVal).kind /\ (R.getD r.toNat dVal).kind <= 3
 rw [List.getD_eq_getElem?_getD]
 cases hk : R[r.toNat]? with
 | none => exact ⟨by decide, by decide⟩
 | some x => exact h x (List.mem_of_getElem? hk)
theorem KOk.set {R : List Val} (h : KOk R) (k : Nat) {v : Val} (hv : 0 <= v.kind /\ v.kind <= 3) : KOk (R.set k v) := fun x hx => by
 rcases List.mem_or_eq_of_mem_set hx with hx | hx
 ·exact h x hx
 ·subst hx; exact hv
theorem KOk.sec {R : List Val} (h : KOk R) (i : Ins) : 0 <= (secV i R).kind /\ (secV i R).kind <= 3 := by
 unfold secV
 split
 ·exact (show 0 <= (1 : Int) /\ (1 : Int) <= 3 by decide)
 ·exact h.rg _
theorem st_kok (i : Ins) (P : List Int) {s : MS} (h : KOk s.R) : KOk (stP1 i P s).2.R := by
 have h1 : 0 <= (1 : Int) /\ (1 : Int) <= 3 := by decide
 unfold stP1
 split
 ·unfold mvP
  split
  ·exact h
  ·split
   ·exact h
   ·exact h.set _ (h.sec i)
 split
 ·unfold ngP
  split
  ·exact h
  ·split
   ·exact h
   ·exact h.set _ (h.rg _)
 split
 ·unfold ldP
  split
  ·exact h
  split
  ·exact h
  split
  ·split
   ·exact h
   ·exact h.set _ h1
  split
  ·exact h
  split
  ·exact h
  ·exact h.set _ h1
 split
 ·unfold ptP
  split
  ·exact h
  split
  ·exact h
  split
  ·exact h
  split
  ·exact h
  ·exact h
 split
 ·exact h
 split
 ·exact h
 split
 ·unfold rkP
  split
  ·exact h
  split
  ·exact h
  split
  ·exact h.set _ (h.rg _)
  ·exact h
 ·exact h
theorem fr_at (n : Int) (i : Ins) (hs : 0 <= i.Size /\ i.Size <= 8) : (if IntKind.i64.wrap (IntKind.u64.wrap (n + IntKind.u64.wrap i.Off)) < -512 \/ IntKind.i64.wrap (IntKind.u64.wrap (n + IntKind.u64.wrap i.Off)) > -512 + 512 - i.Size then ((0 : Int), (112 : Int)) else (IntKind.i64.wrap (IntKind.u64.wrap (n + IntKind.u64.wrap i.Off)) - -512, 0)) = frP n i := by
 unfold frP
 have hx := wrapI64 (IntKind.u64.wrap (n + IntKind.u64.wrap i.Off))
 generalize IntKind.i64.wrap (IntKind.u64.wrap (n + IntKind.u64.wrap i.Off)) = x at *
 by_cases hb : x <= 9223372036854775807 - 512
 ·rw [wrap64 (by omega)]
  by_cases h : x < -512 \/ x > -512 + 512 - i.Size
  ·rw [if_pos h, if_pos (by omega)]
  ·rw [if_neg h, if_neg (by omega), show x - -512 = x + 512 by omega]
 ·have hw : IntKind.i64.wrap (x + 512) = x + 512 - 18446744073709551616 := by rw [wrapI64_eq]; split <;> omega
  rw [hw, if_pos (by omega), if_pos (by omega)]
section
variable (R : List Val) (B : List Int) (S : List Bool) (P : List Int) (hR : R.length = 11)
include hR
theorem rload_L1 {i : Ins} (hd : 0 <= i.Dst /\ i.Dst <= 10) (hz : 0 <= i.Size /\ i.Size <= 8) (hB : ByteL B) (hl : B.length = 512) (hS : S.length = 512) (N : Int) (p : Nat) (hp : (p : Int) <= 512 - i.Size) : ∀ (m k n : Nat) (A : Int), (k : Int) + m = i.Size -> 0 <= A /\ A < 256 ^ k -> 2 * m + 1 <= n ->
  qi_L1 n (p : Int) A ((p + k : Nat) : Int) (R.map rv) B S P i.Op i.Narrow i.Dst i.Src i.UseImm i.Off i.Imm i.Size 3 N =
   if allS S (p + k) m = false then rout R B S P (110, ()) else rout (R.set i.Dst.toNat ⟨1, A * 256 ^ m + beF B (p + k) m⟩) B S P (0, ())
 | 0, k, n, A, hk, hA, hn => by
  obtain ⟨n, rfl⟩ : ∃ n', n = n' + 1 := ⟨n - 1, by omega⟩
  have hl := lenR R hR
  rw [qi_L1_eq, wrap64 (x := (p : Int) + i.Size) (by omega), forkB_if, if_neg (by simp; omega), if_pos (by rw [hl]; omega), if_neg (by simp [allS]), setR _ _ ⟨1, A⟩ (⟨1, A⟩ : RVal) rfl, beF, Int.pow_zero, Int.mul_one, Int.add_zero]
  rfl
 | m + 1, k, n, A, hk, hA, hn => by
  obtain ⟨n, rfl⟩ : ∃ n', n = n' + 1 + 1 := ⟨n - 2, by omega⟩
  have hx := hB.getD (p + k)
  rw [qi_L1_eq, wrap64 (x := (p : Int) + i.Size) (by omega), forkB_if, if_pos (by simp; omega), show ((3 : Int) == 3) = true from rfl, forkB_true, if_pos (by omega), Int.toNat_natCast, qi_J2_eq, forkB_if, allS]
  cases hb : S.getD (p + k) false with
  | false => rw [if_pos (by decide), if_pos (by simp)]; rfl
  | true =>
   rw [if_neg (by decide), if_pos (by omega), Int.toNat_natCast, wrapU64 ⟨hx.1, by omega⟩, addByte (by omega) hA hx, wrap64 (by omega)]
   have := rload_L1 hd hz hB hl hS N p hp m (k + 1) n (A * 256 + B.getD (p + k) 0) (by omega) ⟨by omega, by rw [Int.pow_succ]; omega⟩ (by omega)
   rw [show ((p + (k + 1) : Nat) : Int) = ((p + k : Nat) : Int) + 1 by omega] at this
   rw [this, Bool.true_and, beF, Int.pow_succ, show p + k + 1 = p + (k + 1) by omega, show (A * 256 + B.getD (p + k) 0) * 256 ^ m + beF B (p + (k + 1)) m = A * (256 ^ m * 256) + (B.getD (p + k) 0 * 256 ^ m + beF B (p + (k + 1)) m) by grind]
theorem rload_L1a {i : Ins} (hd : 0 <= i.Dst /\ i.Dst <= 10) (hz : 0 <= i.Size /\ i.Size <= 8) (hP : ByteL P) (hl : P.length <= 65535) (K N : Int) (hK : K ≠ 3) (p : Nat) (hp : (p : Int) <= P.length - i.Size) : ∀ (m k n : Nat) (A : Int), (k : Int) + m = i.Size -> 0 <= A /\ A < 256 ^ k -> 2 * m + 1 <= n ->
  qi_L1a n (p : Int) A ((p + k : Nat) : Int) (R.map rv) B S P i.Op i.Narrow i.Dst i.Src i.UseImm i.Off i.Imm i.Size K N = rout (R.set i.Dst.toNat ⟨1, A * 256 ^ m + beF P (p + k) m⟩) B S P (0, ())
 | 0, k, n, A, hk, hA, hn => by
  obtain ⟨n, rfl⟩ : ∃ n', n = n' + 1 := ⟨n - 1, by omega⟩
  have hl := lenR R hR
  rw [qi_L1a_eq, wrap64 (x := (p : Int) + i.Size) (by omega), forkB_if, if_neg (by simp; omega), if_pos (by rw [hl]; omega), setR _ _ ⟨1, A⟩ (⟨1, A⟩ : RVal) rfl, beF, Int.pow_zero, Int.mul_one, Int.add_zero]
  rfl
 | m + 1, k, n, A, hk, hA, hn => by
  obtain ⟨n, rfl⟩ : ∃ n', n = n' + 1 + 1 := ⟨n - 2, by omega⟩
  have hx := hP.getD (p + k)
  rw [qi_L1a_eq, wrap64 (x := (p : Int) + i.Size) (by omega), forkB_if, if_pos (by simp; omega), show (K == 3) = false by simpa using hK, forkB_false, qi_J2a_eq, forkB_false, if_pos (by omega), Int.toNat_natCast, wrapU64 ⟨hx.1, by omega⟩, addByte (by omega) hA hx, wrap64 (by omega)]
  have := rload_L1a hd hz hP hl K N hK p hp m (k + 1) n (A * 256 + P.getD (p + k) 0) (by omega) ⟨by omega, by rw [Int.pow_succ]; omega⟩ (by omega)
  rw [show ((p + (k + 1) : Nat) : Int) = ((p + k : Nat) : Int) + 1 by omega] at this
  rw [this, beF, Int.pow_succ, show p + k + 1 = p + (k + 1) by omega, show (A * 256 + P.getD (p + k) 0) * 256 ^ m + beF P (p + (k + 1)) m = A * (256 ^ m * 256) + (P.getD (p + k) 0 * 256 ^ m + beF P (p + (k + 1)) m) by grind]
theorem rload_p {i : Ins} (hd : 0 <= i.Dst /\ i.Dst <= 10) (hs : 0 <= i.Src /\ i.Src <= 10) (hz : sizedP i.Size = true) (hB : ByteL B) (hl : B.length = 512) (hS : S.length = 512) (hP : ByteL P) (hPl : P.length <= 65535) (hK : KOk R) :
  qi BIG (R.map rv) B S P i = rout (ldP i P ⟨R, B, S⟩).2.R (ldP i P ⟨R, B, S⟩).2.B (ldP i P ⟨R, B, S⟩).2.S P ((ldP i P ⟨R, B, S⟩).1, ()) := by
 obtain ⟨n, e⟩ : ∃ n : Nat, (BIG : Nat) = n + 40 + 1 := ⟨999999959, rfl⟩
 have hc := sized_cases hz
 have hk4 := hK.rg i.Src
 rw [qi_eq, rask_p R B S P hR hs, obind_rout]
 unfold ldP
 dsimp only
 rw [forkB_if]
 by_cases h0 : ask1 R i.Src = 0
 ·have hk0 : (rg R i.Src).kind ≠ 0 := fun h => by unfold ask1 at h0; rw [if_pos h] at h0; cases h0
  rw [if_neg (show ¬ (ask1 R i.Src != 0) = true by simpa using h0), if_neg (show ¬ (ask1 R i.Src ≠ 0) from fun h => h h0), aR_ok h0]
  simp only [rvK, rvN]
  rw [forkB_if]
  by_cases hk : (rg R i.Src).kind = 1
  ·rw [if_pos (show ((rg R i.Src).kind == 1) = true by simpa using hk), if_pos hk]; rfl
  ·rw [if_neg (show ¬ ((rg R i.Src).kind == 1) = true by simpa using hk), if_neg hk, forkB_if]
   by_cases hk2 : (rg R i.Src).kind = 2
   ·rw [if_neg (show ¬ ((rg R i.Src).kind == 3) = true from fun h => absurd (beq_iff_eq.1 h) (by omega)), if_pos hk2, e, qi_J0a_eq, rat_p _ _ _ _ _ (by omega) (by omega) (by omega), obind_of]
    unfold getP placeP
    rw [if_pos hz]
    generalize IntKind.i64.wrap (IntKind.u64.wrap ((rg R i.Src).n + IntKind.u64.wrap i.Off)) = x
    by_cases hx : x < 0 \/ x > ((P.length : Nat) : Int) - i.Size
    ·rw [if_pos (show x < 0 \/ x > 0 + ((P.length : Nat) : Int) - i.Size by omega), if_pos hx]; rfl
    ·rw [if_neg (show ¬ (x < 0 \/ x > 0 + ((P.length : Nat) : Int) - i.Size) by omega), if_neg hx]
     simp only
     rw [show ((0 : Int) != 0) = false from rfl, forkB_false, Int.sub_zero]
     have := rload_L1a R B S P hR hd (by omega) hP hPl (rg R i.Src).kind (rg R i.Src).n (by omega) x.toNat (by omega) i.Size.toNat 0 (n + 40) 0 (by omega) ⟨by decide, by decide⟩ (by omega)
     simp only [Nat.add_zero] at this
     rw [show ((x.toNat : Nat) : Int) = x by omega, Int.zero_mul, Int.zero_add] at this
     exact this
   ·have hk3 : (rg R i.Src).kind = 3 := by omega
    rw [if_pos (show ((rg R i.Src).kind == 3) = true from beq_iff_eq.2 hk3), if_neg hk2, e, qi_J0_eq, rat_p _ _ _ _ _ (by omega) (by omega) (by omega), obind_of, hl]
    rw [show (((512 : Nat) : Int)) = 512 from rfl, fr_at _ _ (by omega), forkB_if]
    by_cases h2 : (frP (rg R i.Src).n i).2 = 0
    ·rw [if_neg (show ¬ ((frP (rg R i.Src).n i).2 != 0) = true by simpa using h2), if_neg (show ¬ (frP (rg R i.Src).n i).2 ≠ 0 from fun h => h h2)]
     have hf := fr_ok h2
     have := rload_L1 R B S P hR hd (by omega) hB hl hS (rg R i.Src).n (frP (rg R i.Src).n i).1.toNat (by omega) i.Size.toNat 0 (n + 40) 0 (by omega) ⟨by decide, by decide⟩ (by omega)
     simp only [Nat.add_zero] at this
     rw [show (((frP (rg R i.Src).n i).1.toNat : Nat) : Int) = (frP (rg R i.Src).n i).1 by omega, Int.zero_mul, Int.zero_add] at this
     rw [hk3, this]
     split <;> rfl
    ·rw [if_pos (show ((frP (rg R i.Src).n i).2 != 0) = true by simpa using h2), if_pos h2]; rfl
 ·rw [if_pos (show (ask1 R i.Src != 0) = true by simpa using h0), if_pos h0]; rfl
omit hR in
theorem rput_L1 {i : Ins} (hz : 0 <= i.Size /\ i.Size <= 8) (K v : Int) (p : Nat) (hp : (p : Int) <= 512 - i.Size) : ∀ (m k n : Nat) (B : List Int) (S : List Bool), (k : Int) + m = i.Size -> B.length = 512 -> S.length = 512 -> m + 1 <= n ->
  qu_L1 n (p : Int) (k : Int) (R.map rv) B S P i.Op i.Narrow i.Dst i.Src i.UseImm i.Off i.Imm i.Size K v = rout R (setF v B (p + k) m) (setS S (p + k) m) P (0, ())
 | 0, k, n, B, S, hk, hB, hS, hn => by
  obtain ⟨n, rfl⟩ : ∃ n', n = n' + 1 := ⟨n - 1, by omega⟩
  rw [qu_L1_eq, forkB_if, if_neg (by simp; omega)]; rfl
 | m + 1, k, n, B, S, hk, hB, hS, hn => by
  obtain ⟨n, rfl⟩ : ∃ n', n = n' + 1 := ⟨n - 1, by omega⟩
  have e1 : IntKind.i64.wrap ((p : Int) + (k : Int)) = ((p + k : Nat) : Int) := by rw [wrap64 (by omega)]; omega
  have e2 : IntKind.u64.wrap (IntKind.i64.wrap (8 * IntKind.i64.wrap (IntKind.i64.wrap (i.Size - 1) - (k : Int)))) = ((8 * m : Nat) : Int) := by
   rw [wrap64 (x := i.Size - 1) (by omega), wrap64 (x := i.Size - 1 - (k : Int)) (by omega), wrap64 (by omega), wrapU64 ⟨by omega, by omega⟩]; omega
  have e3 : IntKind.u8.wrap (sShr .u64 v ((8 * m : Nat) : Int)) = v / 256 ^ m % 256 := by
   rw [wu8]; unfold sShr
   have hmin : min (((8 * m : Nat) : Int)).toNat (IntKind.u64.bits) = 8 * m := by
    show min (((8 * m : Nat) : Int)).toNat 64 = 8 * m
    omega
   rw [hmin, <- pow256, Int.fdiv_eq_ediv_of_nonneg _ (Int.le_of_lt (Int.pow_pos (by decide)))]
  rw [qu_L1_eq, forkB_if, if_pos (by simp; omega), e1, e2, e3, if_neg (by omega), if_pos (by omega), if_pos (by omega), Int.toNat_natCast, wrap64 (by omega)]
  have := rput_L1 hz K v p hp m (k + 1) n (B.set (p + k) (v / 256 ^ m % 256)) (S.set (p + k) true) (by omega) (by simpa using hB) (by simpa using hS) (by omega)
  exact this
theorem rput_p {i : Ins} (hd : 0 <= i.Dst /\ i.Dst <= 10) (h : i.UseImm = false -> 0 <= i.Src /\ i.Src <= 10) (hz : sizedP i.Size = true) (hl : B.length = 512) (hS : S.length = 512) :
  qu BIG (R.map rv) B S P i = rout (ptP i ⟨R, B, S⟩).2.R (ptP i ⟨R, B, S⟩).2.B (ptP i ⟨R, B, S⟩).2.S P ((ptP i ⟨R, B, S⟩).1, ()) := by
 obtain ⟨n, e⟩ : ∃ n : Nat, (BIG : Nat) = n + 40 + 1 := ⟨999999959, rfl⟩
 have hc := sized_cases hz
 rw [qu_eq]
 unfold ptP
 dsimp only
 by_cases h0 : bothE i R = 0
 ·rw [rboth_ok R B S P hR hd h h0, obind_rout, if_neg (show ¬ bothE i R ≠ 0 from fun h => h h0)]
  dsimp only
  rw [show ((0 : Int) != 0) = false from rfl, forkB_false]
  simp only [rvK, rvN]
  have j0 : ∀ c : Bool, qu_J0 (n + 40 + 1) c (R.map rv) B S P i.Op i.Narrow i.Dst i.Src i.UseImm i.Off i.Imm i.Size (rg R i.Dst).kind (rg R i.Dst).n (secV i R).kind (secV i R).n =
    if c = true then rout R B S P (111, ()) else if (frP (rg R i.Dst).n i).2 ≠ 0 then rout R B S P ((frP (rg R i.Dst).n i).2, ()) else rout R (setF (secV i R).n B (frP (rg R i.Dst).n i).1.toNat i.Size.toNat) (setS S (frP (rg R i.Dst).n i).1.toNat i.Size.toNat) P (0, ()) := fun c => by
   rw [qu_J0_eq]
   cases c with
   | true => rw [forkB_true, if_pos rfl]; rfl
   | false =>
    rw [forkB_false, if_neg (by decide), rat_p _ _ _ _ _ (by omega) (by omega) (by omega), obind_of, fr_at _ _ (by omega), forkB_if]
    by_cases h2 : (frP (rg R i.Dst).n i).2 = 0
    ·have hf := fr_ok h2
     have := rput_L1 R P (i := i) (by omega) (secV i R).kind (secV i R).n (frP (rg R i.Dst).n i).1.toNat (by omega) i.Size.toNat 0 (n + 40) B S (by omega) hl hS (by omega)
     simp only [Nat.add_zero] at this
     rw [show (((frP (rg R i.Dst).n i).1.toNat : Nat) : Int) = (frP (rg R i.Dst).n i).1 by omega] at this
     rw [if_neg (show ¬ ((frP (rg R i.Dst).n i).2 != 0) = true by simpa using h2), if_neg (show ¬ (frP (rg R i.Dst).n i).2 ≠ 0 from fun h => h h2)]
     rw [show ((0 : Nat) : Int) = 0 from rfl] at this
     rw [this]
    ·rw [if_pos (show ((frP (rg R i.Dst).n i).2 != 0) = true by simpa using h2), if_pos h2]; rfl
  rw [e, forkB_if]
  by_cases h2 : (rg R i.Dst).kind = 2
  ·rw [if_pos (show ((rg R i.Dst).kind == 2) = true by simpa using h2), if_pos h2]; rfl
  ·rw [if_neg (show ¬ ((rg R i.Dst).kind == 2) = true by simpa using h2), if_neg h2, forkB_if]
   have fin : ∀ c : Bool, (c = true ↔ ((rg R i.Dst).kind = 1 \/ (secV i R).kind ≠ 1)) -> qu_J0 (n + 40 + 1) c (R.map rv) B S P i.Op i.Narrow i.Dst i.Src i.UseImm i.Off i.Imm i.Size (rg R i.Dst).kind (rg R i.Dst).n (secV i R).kind (secV i R).n =
     if (rg R i.Dst).kind = 1 \/ (secV i R).kind ≠ 1 then rout R B S P (111, ()) else if (frP (rg R i.Dst).n i).2 ≠ 0 then rout R B S P ((frP (rg R i.Dst).n i).2, ()) else rout R (setF (secV i R).n B (frP (rg R i.Dst).n i).1.toNat i.Size.toNat) (setS S (frP (rg R i.Dst).n i).1.toNat i.Size.toNat) P (0, ()) := fun c hcc => by
    rw [j0 c]
    by_cases hq : (rg R i.Dst).kind = 1 \/ (secV i R).kind ≠ 1
    ·rw [if_pos (hcc.2 hq), if_pos hq]
    ·rw [if_neg (fun h => hq (hcc.1 h)), if_neg hq]
   by_cases h1 : (rg R i.Dst).kind = 1
   ·rw [if_pos (show ((rg R i.Dst).kind == 1) = true by simpa using h1), fin true ⟨fun _ => .inl h1, fun _ => rfl⟩, if_pos (.inl h1), if_pos (.inl h1)]
   ·rw [if_neg (show ¬ ((rg R i.Dst).kind == 1) = true by simpa using h1), fin _ ⟨fun h => .inr (by simpa using h), fun h => by rcases h with h | h; exact absurd h h1; simpa using h⟩]
    by_cases h3 : (secV i R).kind = 1
    ·have hq : ¬ ((rg R i.Dst).kind = 1 \/ (secV i R).kind ≠ 1) := fun h => by rcases h with h | h; exact h1 h; exact h h3
     rw [if_neg hq, if_neg hq]
     split <;> rfl
    ·rw [if_pos (.inr h3), if_pos (.inr h3)]
 ·obtain ⟨x, y, hxy⟩ := rboth_no R B S P hR hd h h0
  rw [hxy, obind_rout, if_pos h0]
  dsimp only
  rw [forkB_if, if_pos (show (bothE i R != 0) = true by simpa using h0)]; rfl
theorem ris_m {i : Ins} (hd : 0 <= i.Dst /\ i.Dst <= 10) (h : i.UseImm = false -> 0 <= i.Src /\ i.Src <= 10) (hv : U64 (secV i R).n) (hw : U64 (rg R i.Dst).n) (hop : 17 <= i.Op /\ i.Op <= 27) : qao BIG (R.map rv) B S P i = rout R B S P (brJ i R, brE i R, ()) := by
 obtain ⟨n, e⟩ : ∃ n : Nat, (BIG : Nat) = n + 1 := ⟨999999999, rfl⟩
 rw [qao_eq]
 unfold brJ brE
 by_cases h0 : bothE i R = 0
 ·rw [rboth_ok R B S P hR hd h h0, obind_rout, if_neg (show ¬ bothE i R ≠ 0 from fun h => h h0)]
  dsimp only
  rw [show ((0 : Int) != 0) = false from rfl, forkB_false]
  simp only [rvK, rvN]
  rw [e, forkB_if]
  by_cases ha : (rg R i.Dst).kind = 1
  ·rw [if_neg (show ¬ ((rg R i.Dst).kind != 1) = true by simpa using ha), qao_J0_eq, forkB_if]
   by_cases hb : (secV i R).kind = 1
   ·have h2 : (isP i.Op i.Narrow (rg R i.Dst).n (secV i R).n).2 = 0 := by
     have hq : ∀ (ki k : IntKind) (a b : Int), (isW ki k i.Op a b).2 = 0 := fun ki k a b => by
      unfold isW
      have : i.Op = 17 \/ i.Op = 18 \/ i.Op = 19 \/ i.Op = 20 \/ i.Op = 21 \/ i.Op = 22 \/ i.Op = 23 \/ i.Op = 24 \/ i.Op = 25 \/ i.Op = 26 \/ i.Op = 27 := by omega
      rcases this with h | h | h | h | h | h | h | h | h | h | h <;> rw [h] <;> rfl
     unfold isP
     split <;> exact hq _ _ _ _
    rw [if_neg (show ¬ ((secV i R).kind != 1) = true by simpa using hb), ris_p _ _ _ _ hw hv, obind_of, if_neg (show ¬ ((rg R i.Dst).kind ≠ 1 \/ (secV i R).kind ≠ 1) from fun h => by rcases h with h | h; exact h ha; exact h hb), h2]
    rfl
   ·rw [if_pos (show ((secV i R).kind != 1) = true by simpa using hb), if_pos (show ((rg R i.Dst).kind ≠ 1 \/ (secV i R).kind ≠ 1) from .inr hb)]; rfl
  ·rw [if_pos (show ((rg R i.Dst).kind != 1) = true by simpa using ha), qao_J0_eq, forkB_true, if_pos (show ((rg R i.Dst).kind ≠ 1 \/ (secV i R).kind ≠ 1) from .inl ha)]; rfl
 ·obtain ⟨x, y, hxy⟩ := rboth_no R B S P hR hd h h0
  rw [hxy, obind_rout, if_pos h0]
  dsimp only
  rw [forkB_if, if_pos (show (bothE i R != 0) = true by simpa using h0), show decide (bothE i R = 0) = false by simpa using h0]; rfl
end
end Go.Y
namespace Go.Y
open Go.RowKit Go.V Go.X Go.Proofs
def DoAns (i : Ins) (s : MS) (P : List Int) : Prop := ∃ far, qj BIG (s.R.map rv) s.B s.S P i = rout (stP1 i P s).2.R (stP1 i P s).2.B (stP1 i P s).2.S P (far, decide (i.Op = 28), (stP1 i P s).1, ()) /\ ((stP1 i P s).1 = 0 -> far = jmpP i s.R)
theorem rstep_p {i : Ins} (hi : ROk i) {s : MS} (hs : MOk s) (hk : KOk s.R) {P : List Int} (hP : ByteL P) (hPl : P.length <= 65535) : DoAns i s P := by
 obtain ⟨R, B, S⟩ := s
 have hR : R.length = 11 := hs.rl
 have hv : U64 (secV i R).n := hs.secV i
 have hw : U64 (rg R i.Dst).n := hs.rg _
 have hop := hi.op
 unfold DoAns
 dsimp only at hk ⊢
 rw [qj_eq]
 by_cases h12 : i.Op = 12
 ·have e : stP1 i P ⟨R, B, S⟩ = mvP i ⟨R, B, S⟩ := by unfold stP1; rw [if_pos h12]
  refine ⟨0, ?_, fun _ => by unfold jmpP; rw [if_neg (by omega), if_neg (by omega)]⟩
  rw [forkB_if, if_pos (beq_iff_eq.2 h12), rmove_p R B S P hR (hi.dst (by omega) (by omega)) (hi.src (by omega) (by omega) (by omega)) hv, obind_rout, e, show decide (i.Op = 28) = false from decide_eq_false (by omega)]
  rfl
 rw [forkB_if, if_neg (fun h => h12 (beq_iff_eq.1 h))]
 by_cases h13 : i.Op = 13
 ·have e : stP1 i P ⟨R, B, S⟩ = ngP i ⟨R, B, S⟩ := by unfold stP1; rw [if_neg h12, if_pos h13]
  refine ⟨0, ?_, fun _ => by unfold jmpP; rw [if_neg (by omega), if_neg (by omega)]⟩
  have hd := hi.dst (by omega) (by omega)
  have hl := lenR R hR
  have j0 : ∀ (n : Nat) (x : Int), qj_J2 (n + 1) x (R.map rv) B S P = rout R B S P (0, false, x, ()) := fun n x => by rw [qj_J2_eq]; rfl
  obtain ⟨n, eB⟩ : ∃ n : Nat, (BIG : Nat) = n + 1 + 1 + 1 := ⟨999999997, rfl⟩
  rw [forkB_if, if_pos (beq_iff_eq.2 h13), rask_p R B S P hR hd, obind_rout, e, show decide (i.Op = 28) = false from decide_eq_false (by omega)]
  unfold ngP
  dsimp only
  rw [forkB_if]
  by_cases h0 : ask1 R i.Dst = 0
  ·rw [if_pos (show (ask1 R i.Dst == 0) = true from beq_iff_eq.2 h0), if_neg (show ¬ ask1 R i.Dst ≠ 0 from fun h => h h0), aR_ok h0, h0]
   simp only [rvK, rvN]
   rw [eB, qj_J1_eq, forkB_if]
   by_cases h1 : (rg R i.Dst).kind = 1
   ·have hz : ∀ (nw : Bool) (a : Int), (aluP 13 nw a 0).2 = 0 := fun nw a => by cases nw <;> rfl
    rw [if_neg (show ¬ ((rg R i.Dst).kind != 1) = true by rw [h1]; decide), if_neg (show ¬ (rg R i.Dst).kind ≠ 1 from fun h => h h1), qj_J0_eq, show ((0 : Int) == 0) = true from rfl, forkB_true, rdo_p _ _ _ _ hw ⟨by decide, by decide⟩, obind_of, if_pos (by rw [hl]; omega), setR _ _ ⟨(rg R i.Dst).kind, (aluP i.Op i.Narrow (rg R i.Dst).n 0).1⟩ _ (by rw [h1]; rfl), qj_J2_eq]
    show _ = rout _ B S P (0, false, (aluP i.Op i.Narrow (rg R i.Dst).n 0).2, ())
    rw [show (aluP i.Op i.Narrow (rg R i.Dst).n 0).2 = 0 by rw [h13]; exact hz _ _]
    rfl
   ·rw [if_pos (show ((rg R i.Dst).kind != 1) = true from bne_iff_ne.2 h1), if_pos h1, qj_J0_eq, show ((114 : Int) == 0) = false from rfl, forkB_false, j0]
  ·rw [if_neg (show ¬ (ask1 R i.Dst == 0) = true from fun h => h0 (beq_iff_eq.1 h)), if_pos h0, eB, qj_J1_eq, forkB_false, qj_J0_eq, forkB_if, if_neg (show ¬ (ask1 R i.Dst == 0) = true from fun h => h0 (beq_iff_eq.1 h)), j0]
 rw [forkB_if, if_neg (fun h => h13 (beq_iff_eq.1 h))]
 by_cases hlt : i.Op < 12
 ·have e : stP1 i P ⟨R, B, S⟩ = rkP i ⟨R, B, S⟩ := by unfold stP1; rw [if_neg h12, if_neg h13, if_neg (by omega), if_neg (by omega), if_neg (by omega), if_neg (by omega), if_pos hlt]
  refine ⟨0, ?_, fun _ => by unfold jmpP; rw [if_neg (by omega), if_neg (by omega)]⟩
  rw [forkB_if, if_pos (show decide (i.Op <= 11) = true from decide_eq_true (by omega)), rreckon_p R B S P hR (hi.dst (by omega) (by omega)) (hi.src (by omega) (by omega) (by omega)) hv hw, obind_rout, e, show decide (i.Op = 28) = false from decide_eq_false (by omega)]
  rfl
 rw [forkB_if, if_neg (show ¬ decide (i.Op <= 11) = true from fun h => by have := of_decide_eq_true h; omega)]
 by_cases h14 : i.Op = 14
 ·have e : stP1 i P ⟨R, B, S⟩ = ldP i P ⟨R, B, S⟩ := by unfold stP1; rw [if_neg h12, if_neg h13, if_pos h14]
  refine ⟨0, ?_, fun _ => by unfold jmpP; rw [if_neg (by omega), if_neg (by omega)]⟩
  rw [forkB_if, if_pos (beq_iff_eq.2 h14), rload_p R B S P hR (hi.dst (by omega) (by omega)) (hi.src (by omega) (by omega) (by omega) (hi.ni h14)) (hi.sz (.inl h14)) hs.bb hs.bl hs.sl hP hPl hk, obind_rout, e, show decide (i.Op = 28) = false from decide_eq_false (by omega)]
  rfl
 rw [forkB_if, if_neg (fun h => h14 (beq_iff_eq.1 h))]
 by_cases h15 : i.Op = 15
 ·have e : stP1 i P ⟨R, B, S⟩ = ptP i ⟨R, B, S⟩ := by unfold stP1; rw [if_neg h12, if_neg h13, if_neg h14, if_pos h15]
  refine ⟨0, ?_, fun _ => by unfold jmpP; rw [if_neg (by omega), if_neg (by omega)]⟩
  rw [forkB_if, if_pos (beq_iff_eq.2 h15), rput_p R B S P hR (hi.dst (by omega) (by omega)) (hi.src (by omega) (by omega) (by omega)) (hi.sz (.inr h15)) hs.bl hs.sl, obind_rout, e, show decide (i.Op = 28) = false from decide_eq_false (by omega)]
  rfl
 rw [forkB_if, if_neg (fun h => h15 (beq_iff_eq.1 h))]
 by_cases h16 : i.Op = 16
 ·have e : stP1 i P ⟨R, B, S⟩ = (0, ⟨R, B, S⟩) := by unfold stP1; rw [if_neg h12, if_neg h13, if_neg h14, if_neg h15, if_pos h16]
  refine ⟨i.Off, ?_, fun _ => by unfold jmpP; rw [if_pos h16]⟩
  rw [forkB_if, if_pos (beq_iff_eq.2 h16), e, show decide (i.Op = 28) = false from decide_eq_false (by omega)]
  rfl
 rw [forkB_if, if_neg (fun h => h16 (beq_iff_eq.1 h))]
 by_cases h28 : i.Op = 28
 ·have e : stP1 i P ⟨R, B, S⟩ = (exE R, ⟨R, B, S⟩) := by unfold stP1; rw [if_neg h12, if_neg h13, if_neg h14, if_neg h15, if_neg h16, if_pos h28]
  refine ⟨0, ?_, fun _ => by unfold jmpP; rw [if_neg (by omega), if_neg (by omega)]⟩
  obtain ⟨n, eB⟩ : ∃ n : Nat, (BIG : Nat) = n + 1 + 1 := ⟨999999998, rfl⟩
  rw [forkB_if, if_pos (beq_iff_eq.2 h28), rask_p R B S P hR (by decide), obind_rout, e, show decide (i.Op = 28) = true from decide_eq_true h28]
  unfold exE
  dsimp only
  rw [forkB_if]
  by_cases h0 : ask1 R 0 = 0
  ·rw [if_pos (show (ask1 R 0 == 0) = true from beq_iff_eq.2 h0), if_neg (show ¬ ask1 R 0 ≠ 0 from fun h => h h0), aR_ok h0, h0]
   simp only [rvK]
   rw [eB, qj_J4_eq, forkB_if]
   by_cases h1 : (rg R 0).kind = 1
   ·rw [if_neg (show ¬ ((rg R 0).kind != 1) = true by rw [h1]; decide), if_neg (show ¬ (rg R 0).kind ≠ 1 from fun h => h h1), qj_J3_eq]; rfl
   ·rw [if_pos (show ((rg R 0).kind != 1) = true from bne_iff_ne.2 h1), if_pos h1, qj_J3_eq]; rfl
  ·rw [if_neg (show ¬ (ask1 R 0 == 0) = true from fun h => h0 (beq_iff_eq.1 h)), if_pos h0, eB, qj_J4_eq, forkB_false, qj_J3_eq]; rfl
 ·have e : stP1 i P ⟨R, B, S⟩ = (brE i R, ⟨R, B, S⟩) := by unfold stP1; rw [if_neg h12, if_neg h13, if_neg h14, if_neg h15, if_neg h16, if_neg h28, if_neg hlt]
  refine ⟨if brJ i R = true then i.Off else 0, ?_, fun _ => by unfold jmpP; rw [if_neg h16, if_pos (show 17 <= i.Op /\ i.Op <= 27 by omega)]⟩
  rw [forkB_if, if_neg (fun h => h28 (beq_iff_eq.1 h)), ris_m R B S P hR (hi.dst (by omega) (by omega)) (hi.src (by omega) (by omega) (by omega)) hv hw (by omega), obind_rout, e, show decide (i.Op = 28) = false from decide_eq_false h28]
  dsimp only
  rw [forkB_if]
  split <;> rfl
theorem rrun_L0 (l : List Ins) (P : List Int) (hl : Okay l) (hP : ByteL P) (hPl : P.length <= 65535) : ∀ (f k n : Nat) (s : MS) (st : Int), k < l.length -> l.length <= k + f -> MOk s -> KOk s.R -> 0 <= st -> st + f <= 1000000 -> f + 1 <= n ->
  qap_L0 n l (k : Int) (st + 1) 0 0 0 0 (s.R.map rv) s.B s.S P = some (runP l P f k s st)
 | 0, k, n, s, st, hk, hf, _, _, _, _, _ => by omega
 | f + 1, k, n, s, st, hk, hf, hs, hkk, h0, h1, hn => by
  obtain ⟨n, rfl⟩ : ∃ n', n = n' + 1 := ⟨n - 1, by omega⟩
  have hlen := hl.len
  have hi := rok (c1_right (hl.z1 k hk))
  obtain ⟨far, e1, e2⟩ := rstep_p hi hs hkk hP hPl
  have hR : (stP1 (l.getD k dIns) P s).2.R.length = 11 := (st_ok hi hP hs).rl
  rw [qap_L0_eq, if_pos (by omega), Int.toNat_natCast, e1, obind_rout, runP]
  dsimp only
  rw [forkB_if]
  by_cases he : (stP1 (l.getD k dIns) P s).1 = 0
  ·have hne : ¬ (stP1 (l.getD k dIns) P s).1 ≠ 0 := fun h => h he
   rw [if_neg (show ¬ ((stP1 (l.getD k dIns) P s).1 != 0) = true from fun h => bne_iff_ne.1 h he), if_neg hne, forkB_if]
   by_cases h28 : (l.getD k dIns).Op = 28
   ·rw [if_pos (show decide ((l.getD k dIns).Op = 28) = true from decide_eq_true h28), if_pos h28, if_pos (show (0 : Int) <= 0 /\ (0 : Int) < ((((stP1 (l.getD k dIns) P s).2.R.map rv).length : Nat) : Int) by rw [lenR _ hR]; decide), getR]
    have : (stP1 (l.getD k dIns) P s).2.R = s.R := by unfold stP1; rw [h28]; rfl
    rw [this]; rfl
   ·have hnx := next_at hl hk h28 s.R
    rw [if_neg (show ¬ decide ((l.getD k dIns).Op = 28) = true from fun h => h28 (of_decide_eq_true h)), if_neg h28, e2 he, wrap64 (x := (k : Int) + 1) (by omega), wrap64 (x := (k : Int) + 1 + jmpP (l.getD k dIns) s.R) (by omega), wrap64 (x := st + 1 + 1) (by omega)]
    have := rrun_L0 l P hl hP hPl f ((k : Int) + 1 + jmpP (l.getD k dIns) s.R).toNat n (stP1 (l.getD k dIns) P s).2 (st + 1) (by omega) (by omega) (st_ok hi hP hs) (st_kok _ P hkk) (by omega) (by omega) (by omega)
    rw [show ((((k : Int) + 1 + jmpP (l.getD k dIns) s.R).toNat : Nat) : Int) = (k : Int) + 1 + jmpP (l.getD k dIns) s.R by omega] at this
    exact this
  ·rw [if_pos (show ((stP1 (l.getD k dIns) P s).1 != 0) = true from bne_iff_ne.2 he), if_pos he]
theorem rnew_p (P : List Int) (hP : P.length <= 65535) : qcu BIG P = some ((P, ()), (((ms0 P).R.map rv, List.replicate 512 (0 : Int), List.replicate 512 false, (), ()), ())) := by
 rw [qcu_eq, if_pos (by decide), if_pos (by decide), if_pos (by decide), if_pos (by simp), if_pos (by simp), if_pos (by simp), wrapU64 (x := ((P.length : Nat) : Int)) ⟨by omega, by omega⟩]
 rfl
theorem ms0_k (P : List Int) : KOk (ms0 P).R := fun v hv => by
 have hv : v ∈ [(⟨0, 0⟩ : Val), ⟨2, 0⟩, ⟨1, (P.length : Int)⟩, ⟨0, 0⟩, ⟨0, 0⟩, ⟨0, 0⟩, ⟨0, 0⟩, ⟨0, 0⟩, ⟨0, 0⟩, ⟨0, 0⟩, ⟨3, 0⟩] := hv
 simp only [List.mem_cons, List.not_mem_nil, or_false] at hv
 rcases hv with h | h | h | h | h | h | h | h | h | h | h <;> subst h <;> simp
theorem rrun_p (l : List Ins) (P : List Int) (hP : ByteL P) (hPl : P.length <= 3000) : qap BIG l P = some (runAll l P) := by
 rw [qap_eq, check_r, obind_of, forkB_if, forkB_if]
 unfold runAll
 by_cases he : (checkP l).Err = 0
 ·have hl := okay_of he
  have hlen := hl.len
  have hpos := hl.pos
  rw [if_neg (show ¬ ((checkP l).Err != 0) = true from fun h => bne_iff_ne.1 h he), if_neg (show ¬ (checkP l).Err ≠ 0 from fun h => h he), if_neg (show ¬ decide (((P.length : Nat) : Int) > 65535) = true from fun h => by have := of_decide_eq_true h; omega), if_neg (show ¬ P.length > 65535 by omega), if_pos (show (0 + P.length) * 1 <= 140737488355328 by omega), List.nil_append, rnew_p P (by omega), obind_of]
  have := rrun_L0 l P hl hP (by omega) l.length 0 BIG (ms0 P) 0 (by omega) (by omega) (ms0_ok P (by omega)) (ms0_k P) (by omega) (by omega) (by show l.length + 1 <= 1000000000; omega)
  exact this
 ·rw [if_pos (show ((checkP l).Err != 0) = true from bne_iff_ne.2 he), if_pos he]
def exP : List Int := ((List.replicate 14 (0 : Int)).set 12 8).set 13 6
def exL : List Ins := [⟨14, false, 0, 1, false, 12, 0, 2⟩, ⟨28, false, 0, 0, false, 0, 0, 0⟩]
def exM : List Ins := [⟨12, false, 0, 3, false, 0, 0, 0⟩, ⟨28, false, 0, 0, false, 0, 0, 0⟩]
theorem byteL_of {b : List Int} (h : (b.all fun x => decide (0 <= x) && decide (x <= 255)) = true) : ByteL b := fun x hx => by
 have := List.all_eq_true.1 h x hx
 simpa using this
theorem ex1 : runAll exL exP = ⟨0, 0, 2054, 2⟩ := by kernel_rfl
theorem ex2 : runAll exL (List.take 13 (List.drop 0 exP)) = ⟨112, 0, 0, 1⟩ := by kernel_rfl
theorem ex3 : runAll exM exP = ⟨110, 0, 0, 1⟩ := by kernel_rfl
theorem awake_p : qcv BIG = some true := by
 have e1 := run_p exL exP (byteL_of (by decide +kernel))
 have e2 := run_p exL (List.take 13 (List.drop 0 exP)) (byteL_of (by decide +kernel))
 have e3 := run_p exM exP (byteL_of (by decide +kernel))
 rw [ex1] at e1; rw [ex2] at e2; rw [ex3] at e3
 unfold exL exP at e1
 unfold exL exP at e2
 unfold exM exP at e3
 rw [qcv_eq, e1, e2, e3]
 decide +kernel
theorem markIns_p (k : Nat) : qbg BIG 1 (k : Int) = some (markI k) := by
 rw [qbg_eq, qbq_eq]; rfl
theorem lentIns (l : List Ins) (h : l.length <= 1000000) : qad BIG l = some ((), ((l ++ marksI, 0, l.length), ())) := by
 rw [qad_eq, wrap64 (by omega), if_pos (by omega), if_pos (by simp; omega)]
 have := loop0 (fun n k => qad_L0 n l (k : Int) (l ++ (List.range k).map markI)) 1 12 (some ((), ((l ++ marksI, 0, l.length), ()))) (fun n k hk => ?_) (fun n => ?_) BIG (by decide)
 ·simpa using this
 ·show qad_L0 (n + 1) l (k : Int) _ = qad_L0 n l ((k + 1 : Nat) : Int) _
  rw [qad_L0_eq, decide_eq_true (by omega), forkB_true, markIns_p, obind_of, if_pos (by simp; omega), nx (len := 12) hk (by omega), List.append_assoc, List.range_succ, List.map_append]
  rfl
 ·show qad_L0 (n + 1) l ((12 : Nat) : Int) _ = _
  rw [qad_L0_eq, decide_eq_false (by omega), forkB_false, if_pos ⟨by omega, by omega, by rw [List.length_append]; omega⟩]
  simp [marksI]
theorem keptIns (l : List Ins) (h : l.length <= 1000000) : qp BIG (l ++ marksI) 0 l.length l = some ((l ++ marksI, ()), (true, ())) := by
 have hm : marksI.length = 12 := rfl
 rw [qp_eq, wrap64 (by omega), show (((l.length : Nat) : Int) != ((l.length : Nat) : Int)) = false by simp, forkB_false, if_pos (by rw [List.length_append, hm]; omega)]
 rw [show (((l.length : Nat) : Int) + 12).toNat - 0 = l.length + 12 by omega]
 refine loop0 (fun n k => qp_L0 n l 0 (l.length + 12) (k : Int) (l ++ marksI)) 2 (l.length + 12) _ (fun n k hk => ?_) (fun n => ?_) BIG (by unfold BIG; omega)
 ·show qp_L0 (n + 1 + 1) l 0 (l.length + 12) (k : Int) (l ++ marksI) = qp_L0 n l 0 (l.length + 12) ((k + 1 : Nat) : Int) (l ++ marksI)
  have e : ∀ b, qp_J1 (n + 1) l 0 (l.length + 12) (k : Int) b (l ++ marksI) = if b = true then some ((l ++ marksI, ()), (false, ())) else qp_L0 n l 0 (l.length + 12) ((k + 1 : Nat) : Int) (l ++ marksI) := by
   intro b
   rw [qp_J1_eq, nx hk (by omega)]; rfl
  have hk2 : 0 + (k : Int).toNat < (l ++ marksI).length := by rw [List.length_append, hm]; omega
  rw [qp_L0_eq, decide_eq_true (by omega), forkB_true]
  by_cases hkl : k < l.length
  ·rw [decide_eq_true (by omega), forkB_true, if_pos (by omega), if_pos hk2, if_pos (by omega)]
   have : (l ++ marksI).getD (0 + (k : Int).toNat) dIns = l.getD (k : Int).toNat dIns := by
    rw [Nat.zero_add, List.getD_eq_getElem?_getD, List.getD_eq_getElem?_getD, List.getElem?_append_left (by omega)]
   rw [this]
   simp only [beq_self_eq_true, Bool.and_self, Bool.not_true, forkB_false]
   rw [decide_eq_false (by omega), forkB_false, e, if_neg (by simp)]
  ·rw [decide_eq_false (by omega), forkB_false, decide_eq_true (by omega), forkB_true, if_pos (by omega), if_pos hk2, wrap64 (by omega), show ((k : Int) - (l.length : Int)) = ((k - l.length : Nat) : Int) by omega, markIns_p, obind_of]
   have : (l ++ marksI).getD (0 + (k : Int).toNat) dIns = markI (k - l.length) := by
    rw [Nat.zero_add, List.getD_eq_getElem?_getD, List.getElem?_append_right (by omega), show (k : Int).toNat = k by omega]
    unfold marksI
    rw [List.getElem?_map, List.getElem?_range (by omega)]; rfl
   rw [this]
   simp only [beq_self_eq_true, Bool.and_self, Bool.not_true]
   rw [e, if_neg (by simp)]
 ·show qp_L0 (n + 1) l 0 (l.length + 12) ((l.length + 12 : Nat) : Int) (l ++ marksI) = _
  rw [qp_L0_eq, decide_eq_false (by omega), forkB_false]
def markB (k : Nat) : Int := IntKind.u8.wrap (sShr .u64 (IntKind.u64.wrap ((IntKind.u64.wrap (IntKind.i64.wrap (8000024 + (k : Int)))) * (11400714819323198485 : Int))) (56 : Int))
theorem markByte_p (k : Nat) : qbh BIG 1 (k : Int) = some (markB k) := by
 rw [qbh_eq, qbq_eq]; rfl
def marksB : List Int := (List.range 12).map markB
theorem lentBytes (l : List Int) (h : l.length <= 1000000) : qae BIG l = some ((), ((l ++ marksB, 0, l.length), ())) := by
 rw [qae_eq, wrap64 (by omega), if_pos (by omega), if_pos (by simp; omega)]
 have := loop0 (fun n k => qae_L0 n l (k : Int) (l ++ (List.range k).map markB)) 1 12 (some ((), ((l ++ marksB, 0, l.length), ()))) (fun n k hk => ?_) (fun n => ?_) BIG (by decide)
 ·simpa using this
 ·show qae_L0 (n + 1) l (k : Int) _ = qae_L0 n l ((k + 1 : Nat) : Int) _
  rw [qae_L0_eq, decide_eq_true (by omega), forkB_true, markByte_p, obind_of, if_pos (by simp; omega), nx (len := 12) hk (by omega), List.append_assoc, List.range_succ, List.map_append]
  rfl
 ·show qae_L0 (n + 1) l ((12 : Nat) : Int) _ = _
  rw [qae_L0_eq, decide_eq_false (by omega), forkB_false, if_pos ⟨by omega, by omega, by rw [List.length_append]; omega⟩]
  simp [marksB]
theorem keptBytes (l : List Int) (h : l.length <= 1000000) : qq BIG (l ++ marksB) 0 l.length l = some ((l ++ marksB, ()), (true, ())) := by
 have hm : marksB.length = 12 := rfl
 rw [qq_eq, wrap64 (by omega), show (((l.length : Nat) : Int) != ((l.length : Nat) : Int)) = false by simp, forkB_false, if_pos (by rw [List.length_append, hm]; omega)]
 rw [show (((l.length : Nat) : Int) + 12).toNat - 0 = l.length + 12 by omega]
 refine loop0 (fun n k => qq_L0 n l 0 (l.length + 12) (k : Int) (l ++ marksB)) 2 (l.length + 12) _ (fun n k hk => ?_) (fun n => ?_) BIG (by unfold BIG; omega)
 ·show qq_L0 (n + 1 + 1) l 0 (l.length + 12) (k : Int) (l ++ marksB) = qq_L0 n l 0 (l.length + 12) ((k + 1 : Nat) : Int) (l ++ marksB)
  have e : ∀ b, qq_J1 (n + 1) l 0 (l.length + 12) (k : Int) b (l ++ marksB) = if b = true then some ((l ++ marksB, ()), (false, ())) else qq_L0 n l 0 (l.length + 12) ((k + 1 : Nat) : Int) (l ++ marksB) := by
   intro b
   rw [qq_J1_eq, nx hk (by omega), forkB_if]
  have hk2 : 0 + (k : Int).toNat < (l ++ marksB).length := by rw [List.length_append, hm]; omega
  rw [qq_L0_eq, decide_eq_true (by omega), forkB_true]
  by_cases hkl : k < l.length
  ·rw [decide_eq_true (by omega), forkB_true, if_pos (by omega), if_pos hk2, if_pos (by omega)]
   have : (l ++ marksB).getD (0 + (k : Int).toNat) 0 = l.getD (k : Int).toNat 0 := by
    rw [Nat.zero_add, List.getD_eq_getElem?_getD, List.getD_eq_getElem?_getD, List.getElem?_append_left (by omega)]
   rw [this]
   simp only [beq_self_eq_true, Bool.not_true, forkB_false]
   rw [decide_eq_false (by omega), forkB_false, e, if_neg (by simp)]
  ·rw [decide_eq_false (by omega), forkB_false, decide_eq_true (by omega), forkB_true, if_pos (by omega), if_pos hk2, wrap64 (by omega), show ((k : Int) - (l.length : Int)) = ((k - l.length : Nat) : Int) by omega, markByte_p, obind_of]
   have : (l ++ marksB).getD (0 + (k : Int).toNat) 0 = markB (k - l.length) := by
    rw [Nat.zero_add, List.getD_eq_getElem?_getD, List.getElem?_append_right (by omega), show (k : Int).toNat = k by omega]
    unfold marksB
    rw [List.getElem?_map, List.getElem?_range (by omega)]; rfl
   rw [this]
   simp only [beq_self_eq_true, Bool.not_true]
   rw [e, if_neg (by simp)]
 ·show qq_L0 (n + 1) l 0 (l.length + 12) ((l.length + 12 : Nat) : Int) (l ++ marksB) = _
  rw [qq_L0_eq, decide_eq_false (by omega), forkB_false]
theorem runs_true (l : List Ins) (P : List Int) (hP : ByteL P) : qas BIG l P = some true := by
 obtain ⟨n, e⟩ : ∃ n : Nat, (BIG : Nat) = n + 1 := ⟨999999999, rfl⟩
 have ht : qas_J0 (n + 1) l P true = some true := by rw [qas_J0_eq, forkB_true]
 rw [qas_eq, awake_p, obind_of, forkB_if, if_neg (by decide), forkB_if]
 by_cases h1 : l.length <= 300
 ·rw [if_neg (by simp; omega)]
  by_cases h2 : P.length <= 3000
  ·rw [show decide (((P.length : Nat) : Int) > 3000) = false by simp; omega, e, qas_J0_eq, forkB_false, lentIns l (by omega), obind_of, lentBytes P (by omega), obind_of]
   dsimp only
   rw [if_pos (by rw [List.length_append]; omega), if_pos (by rw [List.length_append]; omega), List.drop_zero, List.drop_zero, List.take_left', List.take_left']
   rw [run_p l P hP, obind_of, rrun_p l P hP h2, obind_of]
   simp only [beq_self_eq_true, Bool.and_self, forkB_true]
   rw [keptIns l (by omega), obind_of]
   dsimp only
   rw [forkB_true, keptBytes P (by omega), obind_of]
   all_goals rfl
  ·rw [show decide (((P.length : Nat) : Int) > 3000) = true by simp; omega, e]; exact ht
 ·rw [if_pos (by simp; omega), e]; exact ht
end Go.Y
