/- Each first pair of bytes: the law InsEach. -/
import Derived.Test.YtdlmkfnjljlmgaaPm
namespace Go.Y
open Go.RowKit Go.V Go.X Go.Proofs

def sumG (g : Nat → Nat) : Nat → Nat → Nat
  | _, 0 => 0
  | k, m + 1 => g k + sumG g (k + 1) m
/-- a loop that counts what is good, at least g k at round k, at most U. -/
theorem iter {α : Type} (f : Nat → Int → Nat → Option α) (c U : Nat) (M : Int) (g : Nat → Nat) (len : Nat)
    (step : ∀ n s k, k < len → c ≤ n → 0 ≤ s → s + (U : Int) ≤ M → ∃ n' s', n ≤ n' + c ∧ s + (g k : Int) ≤ s' ∧ s' ≤ s + (U : Int) ∧ f n s k = f n' s' (k + 1)) :
    ∀ (m k n : Nat) (s : Int), k + m = len → c * m ≤ n → 0 ≤ s → s + ((U * m : Nat) : Int) ≤ M → ∃ n' s', n ≤ n' + c * m ∧ s + (sumG g k m : Int) ≤ s' ∧ s' ≤ s + ((U * m : Nat) : Int) ∧ f n s k = f n' s' len
  | 0, k, n, s, hk, hn, h0, h1 => ⟨n, s, by omega, by simp [sumG], by simp, by rw [show k = len by omega]⟩
  | m + 1, k, n, s, hk, hn, h0, h1 => by
    rw [Nat.mul_succ] at hn h1
    obtain ⟨n1, s1, a1, a2, a3, a4⟩ := step n s k (by omega) (by omega) h0 (by omega)
    obtain ⟨n2, s2, b1, b2, b3, b4⟩ := iter f c U M g len step m (k + 1) n1 s1 (by omega) (by omega) (by omega) (by omega)
    refine ⟨n2, s2, by rw [Nat.mul_succ]; omega, ?_, by rw [Nat.mul_succ]; omega, by rw [a4, b4]⟩
    show s + ((g k + sumG g (k + 1) m : Nat) : Int) ≤ s2
    omega
theorem each_J5 (n : Nat) (s1 s2 s3 s4 : Int) (row : List Int) (hb : ∀ x ∈ row, Byte x) (hl : row.length = 8) (h0 : 0 ≤ s1 ∧ s1 ≤ 1000000) (g : Nat) (hg : g = 0 ∨ g = 1 ∧ ∃ i, rightP i = true ∧ putP i = row) :
    ∃ n' s', n + 5 ≤ n' + 5 ∧ s1 + (g : Int) ≤ s' ∧ s' ≤ s1 + 1 ∧ law06InsEach_J5 (n + 5) s1 s2 s3 s4 row = law06InsEach_L2 n' s' s2 s3 (IntKind.i64.wrap (s4 + 1)) := by
  rw [law06InsEach_J5_eq, get_p row hb, obind_of]
  rcases gets_or row with ⟨e, he, hr⟩ | ⟨l, hr, hE, _, h4⟩
  · refine ⟨n + 3, s1, by omega, ?_, by omega, ?_⟩
    · rcases hg with rfl | ⟨_, i, hi, hp⟩
      · simp
      · have := gets_enc [i] row (by rw [enc_cons' i [] [] hi rfl, hp, List.append_nil]) (by simp)
        rw [this] at hr; cases hr
    · rw [hr]; simp only
      rw [show (e != 0) = true by simpa using he, forkB_true, law06InsEach_J3_eq]
  · refine ⟨n + 2, s1 + 1, by omega, ?_, by omega, ?_⟩
    · rcases hg with rfl | ⟨rfl, _⟩ <;> omega
    · have hln : l.length = 1 := by have := encP_len l row hE; omega
      rw [hr]; simp only
      rw [show ((0 : Int) != 0) = false from rfl, forkB_false, put_p, obind_of, puts_enc l (by omega), hE]
      show forkB ((0 : Int) != 0) _ (forkB _ _ (obind (kitSameBytes BIG row row) _)) = _
      rw [show ((0 : Int) != 0) = false from rfl, forkB_false, hln, show (((1 : Nat) : Int) != 1) = false from rfl, forkB_false, sameBytes row (by omega), obind_of, Bool.not_true, law06InsEach_J6_eq, forkB_false, law06InsEach_J3_eq, wrap64 (by omega)]
def goodO (x : Nat) : Bool := (decide (17 ≤ x) && decide (x ≤ 27)) || (decide (81 ≤ x) && decide (x ≤ 91))
def goodD (x : Nat) : Bool := decide (x / 16 ≤ 10) && decide (x % 16 ≤ 10)
theorem good_row (x y : Nat) (off : Int) (hx : goodO x = true) (hy : goodD y = true) (ho : off = 0 ∨ off = -2) : ∃ i, rightP i = true ∧ putP i = [(x : Int), (y : Int), off % 65536 / 256, off % 256, 0, 0, 0, 0] := by
  unfold goodO at hx
  unfold goodD at hy
  simp only [Bool.or_eq_true, Bool.and_eq_true, decide_eq_true_eq] at hx hy
  have hr : ∀ (op : Int) (nw : Bool), 17 ≤ op ∧ op ≤ 27 → rightP ⟨op, nw, ((y / 16 : Nat) : Int), ((y % 16 : Nat) : Int), false, off, 0, 0⟩ = true := by
    intro op nw h
    unfold rightP
    simp only
    rw [if_neg (by omega), if_neg (by omega), if_neg (by omega), if_neg (by omega), if_neg (by omega), if_pos h]
    simp [regP, farP, secondP]
    omega
  rcases hx with h | h
  · refine ⟨⟨x, false, ((y / 16 : Nat) : Int), ((y % 16 : Nat) : Int), false, off, 0, 0⟩, hr _ _ (by omega), ?_⟩
    unfold putP upP
    simp
    omega
  · refine ⟨⟨(x : Int) - 64, true, ((y / 16 : Nat) : Int), ((y % 16 : Nat) : Int), false, off, 0, 0⟩, hr _ _ (by omega), ?_⟩
    unfold putP upP
    simp
    omega
def lbP (x y : Nat) : Nat := if goodO x = true ∧ goodD y = true then 1 else 0
theorem each_L1 (n : Nat) (s1 : Int) (x y : Nat) (hx : x < 256) (hy : y < 256) (hn : 40 ≤ n) (h0 : 0 ≤ s1 ∧ s1 ≤ 999000) :
    ∃ n' s', n ≤ n' + 40 ∧ s1 + ((lbP x y * 2 : Nat) : Int) ≤ s' ∧ s' ≤ s1 + 4 ∧ law06InsEach_L1 n s1 (x : Int) (y : Int) = law06InsEach_L1 n' s' (x : Int) ((y + 1 : Nat) : Int) := by
  have e1 : IntKind.u8.wrap (x : Int) = x := by rw [u8w]; omega
  have e2 : IntKind.u8.wrap (y : Int) = y := by rw [u8w]; omega
  have byte : ∀ a b c d : Int, Byte a → Byte b → Byte c → Byte d → ∀ z ∈ [(x : Int), (y : Int), a, b, c, 0, 0, d], Byte z := by
    intro a b c d ha hb hc hd z hz
    simp only [List.mem_cons, List.not_mem_nil, or_false] at hz
    unfold Byte at *
    rcases hz with rfl | rfl | rfl | rfl | rfl | rfl | rfl | rfl <;> first | assumption | omega
  have B0 : Byte 0 := by unfold Byte; omega
  have g01 : ∀ (off : Int) (row : List Int), off = 0 ∨ off = -2 → row = [(x : Int), (y : Int), off % 65536 / 256, off % 256, 0, 0, 0, 0] → lbP x y = 0 ∨ lbP x y = 1 ∧ ∃ i, rightP i = true ∧ putP i = row := by
    intro off row ho hr
    unfold lbP
    by_cases h : goodO x = true ∧ goodD y = true
    · rw [if_pos h]; subst hr; exact .inr ⟨rfl, good_row x y off h.1 h.2 ho⟩
    · rw [if_neg h]; exact .inl rfl
  obtain ⟨n, rfl⟩ : ∃ k, n = k + 40 := ⟨n - 40, by omega⟩
  rw [law06InsEach_L1_eq, decide_eq_true (by omega), forkB_true]
  -- the first
  rw [law06InsEach_L2_eq, decide_eq_true (by decide), forkB_true, show (bAnd .i64 0 1 == 1) = false from by decide, forkB_false, law06InsEach_J4_eq, show (bAnd .i64 0 2 == 2) = false from by decide, forkB_false, e1, e2]
  obtain ⟨n1, t1, a1, a2, a3, a4⟩ := each_J5 (n + 32) s1 x y 0 [(x : Int), (y : Int), 0, 0, 0, 0, 0, 0] (byte 0 0 0 0 B0 B0 B0 B0) rfl (by omega) (lbP x y) (g01 0 _ (.inl rfl) rfl)
  rw [a4]
  obtain ⟨n1, rfl⟩ : ∃ k, n1 = k + 2 := ⟨n1 - 2, by omega⟩
  rw [show IntKind.i64.wrap (0 + 1) = 1 from rfl, law06InsEach_L2_eq, decide_eq_true (by decide), forkB_true, show (bAnd .i64 1 1 == 1) = true from by decide, forkB_true, law06InsEach_J4_eq, show (bAnd .i64 1 2 == 2) = false from by decide, forkB_false, e1, e2]
  obtain ⟨n1, rfl⟩ : ∃ k, n1 = k + 5 := ⟨n1 - 5, by omega⟩
  obtain ⟨n2, t2, b1, b2, b3, b4⟩ := each_J5 n1 t1 x y 1 [(x : Int), (y : Int), 255, 254, 0, 0, 0, 0] (byte 255 254 0 0 (by unfold Byte; omega) (by unfold Byte; omega) B0 B0) rfl (by omega) (lbP x y) (g01 (-2) _ (.inr rfl) rfl)
  rw [b4]
  obtain ⟨n2, rfl⟩ : ∃ k, n2 = k + 2 := ⟨n2 - 2, by omega⟩
  rw [show IntKind.i64.wrap (1 + 1) = 2 from rfl, law06InsEach_L2_eq, decide_eq_true (by decide), forkB_true, show (bAnd .i64 2 1 == 1) = false from by decide, forkB_false, law06InsEach_J4_eq, show (bAnd .i64 2 2 == 2) = true from by decide, forkB_true, e1, e2, if_pos (by simp), if_pos (by simp)]
  obtain ⟨n2, rfl⟩ : ∃ k, n2 = k + 5 := ⟨n2 - 5, by omega⟩
  obtain ⟨n3, t3, c1, c2, c3, c4⟩ := each_J5 n2 t2 x y 2 [(x : Int), (y : Int), 0, 0, 128, 0, 0, 1] (byte 0 0 128 1 B0 B0 (by unfold Byte; omega) (by unfold Byte; omega)) rfl (by omega) 0 (.inl rfl)
  rw [show List.set (List.set [(x : Int), (y : Int), 0, 0, 0, 0, 0, 0] 4 128) 7 1 = [(x : Int), (y : Int), 0, 0, 128, 0, 0, 1] from rfl, c4]
  obtain ⟨n3, rfl⟩ : ∃ k, n3 = k + 2 := ⟨n3 - 2, by omega⟩
  rw [show IntKind.i64.wrap (2 + 1) = 3 from rfl, law06InsEach_L2_eq, decide_eq_true (by decide), forkB_true, show (bAnd .i64 3 1 == 1) = true from by decide, forkB_true, law06InsEach_J4_eq, show (bAnd .i64 3 2 == 2) = true from by decide, forkB_true, e1, e2, if_pos (by simp), if_pos (by simp)]
  obtain ⟨n3, rfl⟩ : ∃ k, n3 = k + 5 := ⟨n3 - 5, by omega⟩
  obtain ⟨n4, t4, d1, d2, d3, d4⟩ := each_J5 n3 t3 x y 3 [(x : Int), (y : Int), 255, 254, 128, 0, 0, 1] (byte 255 254 128 1 (by unfold Byte; omega) (by unfold Byte; omega) (by unfold Byte; omega) (by unfold Byte; omega)) rfl (by omega) 0 (.inl rfl)
  rw [show List.set (List.set [(x : Int), (y : Int), 255, 254, 0, 0, 0, 0] 4 128) 7 1 = [(x : Int), (y : Int), 255, 254, 128, 0, 0, 1] from rfl, d4]
  obtain ⟨n4, rfl⟩ : ∃ k, n4 = k + 1 := ⟨n4 - 1, by omega⟩
  rw [show IntKind.i64.wrap (3 + 1) = 4 from rfl, law06InsEach_L2_eq, decide_eq_false (by decide), forkB_false, nx (len := 256) hy (by omega)]
  exact ⟨n4, t4, by omega, by omega, by omega, rfl⟩
theorem sumD : sumG (fun y => if goodD y = true then 2 else 0) 0 256 = 242 := by decide +kernel
theorem sumO : sumG (fun x => if goodO x = true then 242 else 0) 0 256 = 5324 := by decide +kernel
theorem sum_le (g h : Nat → Nat) (hgh : ∀ k, g k ≤ h k) : ∀ m k, sumG g k m ≤ sumG h k m
  | 0, _ => Nat.le_refl _
  | m + 1, k => Nat.add_le_add (hgh k) (sum_le g h hgh m (k + 1))
theorem each_L0 (n : Nat) (s : Int) (x : Nat) (hx : x < 256) (hn : 12000 ≤ n) (h0 : 0 ≤ s) (h1 : s + 1024 ≤ 900000) :
    ∃ n' s', n ≤ n' + 12000 ∧ s + ((if goodO x = true then 242 else 0 : Nat) : Int) ≤ s' ∧ s' ≤ s + 1024 ∧ law06InsEach_L0 n s (x : Int) = law06InsEach_L0 n' s' ((x + 1 : Nat) : Int) := by
  obtain ⟨n, rfl⟩ : ∃ k, n = k + 1 := ⟨n - 1, by omega⟩
  obtain ⟨n1, s1, a1, a2, a3, a4⟩ := iter (fun n s k => law06InsEach_L1 n s (x : Int) (k : Int)) 40 4 990000 (fun y => lbP x y * 2) 256 (fun n s y hy hn h0 h1 => each_L1 n s x y hx hy hn ⟨h0, by omega⟩) 256 0 n s (by omega) (by omega) h0 (by omega)
  obtain ⟨n1, rfl⟩ : ∃ k, n1 = k + 1 := ⟨n1 - 1, by omega⟩
  refine ⟨n1, s1, by omega, ?_, by omega, ?_⟩
  · by_cases hg : goodO x = true
    · rw [if_pos hg]
      have e : (fun y => lbP x y * 2) = (fun y => if goodD y = true then 2 else 0) := by
        funext y
        unfold lbP
        by_cases hd : goodD y = true
        · rw [if_pos ⟨hg, hd⟩, if_pos hd]
        · rw [if_neg (fun h => hd h.2), if_neg hd]
      rw [e, sumD] at a2
      exact a2
    · rw [if_neg hg]; omega
  · rw [law06InsEach_L0_eq, decide_eq_true (by omega), forkB_true]
    have a4 : law06InsEach_L1 n s (x : Int) 0 = law06InsEach_L1 (n1 + 1) s1 (x : Int) ((256 : Nat) : Int) := a4
    rw [a4, law06InsEach_L1_eq, decide_eq_false (by decide), forkB_false, nx (len := 256) hx (by omega)]
theorem insEach_true : law06InsEach BIG = some true := by
  rw [law06InsEach_eq, awake06, obind_of, Bool.not_true, forkB_false]
  obtain ⟨n', s', h1, h2, h3, h4⟩ := iter (fun n s k => law06InsEach_L0 n s (k : Int)) 12000 1024 900000 (fun x => if goodO x = true then 242 else 0) 256 (fun n s x hx hn h0 h1 => each_L0 n s x hx hn h0 (by omega)) 256 0 BIG 0 (by omega) (by unfold BIG; omega) (by omega) (by omega)
  rw [sumO] at h2
  have h4 : law06InsEach_L0 BIG 0 0 = law06InsEach_L0 n' s' ((256 : Nat) : Int) := h4
  obtain ⟨n', rfl⟩ : ∃ k, n' = k + 1 := ⟨n' - 1, by unfold BIG at h1; omega⟩
  rw [h4, law06InsEach_L0_eq, decide_eq_false (by decide), forkB_false, decide_eq_true (by omega)]
end Go.Y
