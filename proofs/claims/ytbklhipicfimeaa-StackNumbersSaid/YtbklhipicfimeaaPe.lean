/- Places and sizes at their ends; rows with one that is set. -/
import Derived.Test.YtbklhipicfimeaaPc
namespace Go.Y
open Go.RowKit Go.V Go.X Go.Proofs

theorem bneSelf (x : Int) : (x != x) = false := by simp
def full (n : Nat) : List Bool := List.replicate n true
theorem full_len (n : Nat) : (full n).length = n := List.length_replicate ..
theorem numbers_L3 (n : Nat) (i j : Nat) (A B : List Int) (r : List Bool) (hi : i < A.length) (hj : j < B.length) (hr : r.length = 513) : ∀ m k : Nat, k + m = 514 → law13StackNumbers_L3 (n + 1 + 1 + m) (i : Int) (j : Int) (k : Int) A B r = law13StackNumbers_L2 n (i : Int) (IntKind.i64.wrap ((j : Int) + 1)) A B r
  | 0, k, hk => by
    have hi' : 0 ≤ (i : Int) ∧ (i : Int) < ((A.length : Nat) : Int) := by omega
    have hj' : 0 ≤ (j : Int) ∧ (j : Int) < ((B.length : Nat) : Int) := by omega
    rw [Nat.add_zero, law13StackNumbers_L3_eq, decide_eq_false (by omega), forkB_false, new_p, obind_of, if_pos hi', if_pos hj', stackSet_r, obind_of, new_r, obind_of, if_pos hi', if_pos hj', set_r, obind_of, bneSelf, forkB_false,
      sameTruths _ (Nat.le_trans (setP_len _ _ _) (by rw [List.length_replicate]; omega)), obind_of, Bool.not_true, law13StackNumbers_J4_eq, forkB_false]
  | m + 1, k, hk => by
    have hi' : 0 ≤ (i : Int) ∧ (i : Int) < ((A.length : Nat) : Int) := by omega
    have hj' : 0 ≤ (j : Int) ∧ (j : Int) < ((B.length : Nat) : Int) := by omega
    have hk1 : 0 ≤ (0 : Int) ∧ (0 : Int) ≤ (k : Int) ∧ (k : Int) ≤ ((r.length : Nat) : Int) := by omega
    have hk2 : 0 + ((k : Int).toNat - 0) ≤ r.length := by omega
    rw [show n + 1 + 1 + (m + 1) = (n + 1 + 1 + m) + 1 by omega, law13StackNumbers_L3_eq, decide_eq_true (by omega), forkB_true, if_pos hk1, if_pos hi', if_pos hj', if_pos hk2, stackRead_r, obind_of, if_pos hk1, if_pos hi', if_pos hj', if_pos hk2, read_r, obind_of, bneSelf, forkB_false, nx (len := 514) (by omega) (by omega)]
    exact numbers_L3 n i j A B r hi hj hr m (k + 1) (by omega)
theorem numbers_L2 (i : Nat) (A B : List Int) (r : List Bool) (hi : i < A.length) (hA : A.length ≤ 100) (hB : B.length = 14) (hr : r.length = 513) (n : Nat) : law13StackNumbers_L2 (n + 85) (i : Int) 0 A B r = law13StackNumbers_L1 n ((i + 1 : Nat) : Int) A B r := by
  have h : ∀ m k : Nat, k + m = 14 → law13StackNumbers_L2 (n + 1 + 6 * m) (i : Int) (k : Int) A B r = law13StackNumbers_L1 n ((i + 1 : Nat) : Int) A B r := by
    intro m
    induction m with
    | zero =>
      intro k hk
      rw [Nat.mul_zero, Nat.add_zero, law13StackNumbers_L2_eq, decide_eq_false (by omega), forkB_false, nx hi (by omega)]
    | succ m ih =>
      intro k hk
      rw [show n + 1 + 6 * (m + 1) = ((n + 1 + 6 * m) + 1 + 1 + 3) + 1 by omega, law13StackNumbers_L2_eq, decide_eq_true (by omega), forkB_true]
      rw [show (511 : Int) = ((511 : Nat) : Int) from rfl, numbers_L3 (n + 1 + 6 * m) i k A B r hi (by omega) hr 3 511 (by omega), nx (len := 14) (by omega) (by omega)]
      exact ih (k + 1) (by omega)
  exact h 14 0 (by omega)
theorem numbers_L1 (A B : List Int) (r : List Bool) (hA : A.length = 19) (hB : B.length = 14) (hr : r.length = 513) (n : Nat) (hn : 86 * 19 ≤ n) : ∃ m, n = m + 1 + 86 * 19 - 1 ∧ law13StackNumbers_L1 (n + 1) 0 A B r = law13StackNumbers_L5 (n - 86 * 19) 0 r := by
  refine ⟨n - 86 * 19, by omega, ?_⟩
  have h : ∀ m k : Nat, k + m = 19 → law13StackNumbers_L1 ((n - 86 * 19) + 1 + 86 * m) (k : Int) A B r = law13StackNumbers_L5 (n - 86 * 19) 0 r := by
    intro m
    induction m with
    | zero =>
      intro k hk
      rw [Nat.mul_zero, Nat.add_zero, law13StackNumbers_L1_eq, decide_eq_false (by omega), forkB_false]
    | succ m ih =>
      intro k hk
      rw [show (n - 86 * 19) + 1 + 86 * (m + 1) = (((n - 86 * 19) + 1 + 86 * m) + 85) + 1 by omega, law13StackNumbers_L1_eq, decide_eq_true (by omega), forkB_true, numbers_L2 k A B r (by omega) (by omega) hB hr]
      exact ih (k + 1) (by omega)
  have := h 19 0 (by omega)
  rwa [show n - 86 * 19 + 1 + 86 * 19 = n + 1 by omega] at this
theorem inN_iff (a b : List Bool) (k : Nat) : inN a b k = true ↔ ∀ i, k ≤ i → i < 512 → b.getD i false = true → a.getD i false = true := by
  unfold inN
  rw [List.all_eq_true]
  constructor
  · intro h i h1 h2 hb
    have := h i (by rw [List.mem_range'_1]; omega)
    rw [hb] at this
    cases ha : a.getD i false with
    | true => rfl
    | false => rw [ha] at this; cases this
  · intro h i hi
    rw [List.mem_range'_1] at hi
    cases hb : b.getD i false with
    | false => rfl
    | true => rw [h i (by omega) (by omega) hb]; rfl
def one (k : Nat) : List Bool := (List.replicate 512 false).set k true
theorem one_len (k : Nat) : (one k).length = 512 := by rw [one, List.length_set]; exact List.length_replicate ..
theorem none_at (i : Nat) : (List.replicate 512 false).getD i false = false := by
  rw [List.getD_eq_getElem?_getD, List.getElem?_replicate]; split <;> rfl
theorem one_at (k i : Nat) (hk : k < 512) : (one k).getD i false = decide (k = i) := by
  rw [one, List.getD_eq_getElem?_getD, List.getElem?_set]
  by_cases h : k = i
  · rw [if_pos h, if_pos (by rw [List.length_replicate]; exact hk), decide_eq_true h]; rfl
  · rw [if_neg h, decide_eq_false h, ← List.getD_eq_getElem?_getD, none_at]
theorem full_at (n i : Nat) (h : i < n) : (full n).getD i false = true := by
  rw [full, List.getD_eq_getElem?_getD, List.getElem?_replicate, if_pos h]; rfl
theorem withinR_of (a b : List Bool) (ha : a.length = 512) (hb : b.length = 512) : withinR a b = inN a b 0 := by
  unfold withinR; rw [decide_eq_true ha, decide_eq_true hb]; rfl
theorem eqFalse_of {b : Bool} (h : ¬ b = true) : b = false := by cases b with | true => exact (h rfl).elim | false => rfl
theorem w1 (k : Nat) : withinR (one k) (List.replicate 512 false) = true := by
  rw [withinR_of _ _ (one_len k) (List.length_replicate ..), inN_iff]
  intro i _ _ h; rw [none_at] at h; cases h
theorem w2 (k : Nat) (hk : k < 512) : withinR (List.replicate 512 false) (one k) = false := by
  rw [withinR_of _ _ (List.length_replicate ..) (one_len k)]
  refine eqFalse_of fun h => ?_
  rw [inN_iff] at h
  have := h k (by omega) hk (by rw [one_at k k hk]; simp)
  rw [none_at] at this; cases this
theorem w3 (k : Nat) : withinR (full 512) (one k) = true := by
  rw [withinR_of _ _ (full_len _) (one_len k), inN_iff]
  intro i _ h2 _; exact full_at _ _ h2
theorem w4 (k : Nat) (hk : k < 512) : withinR (one k) (full 512) = false := by
  rw [withinR_of _ _ (one_len k) (full_len _)]
  refine eqFalse_of fun h => ?_
  rw [inN_iff] at h
  by_cases h0 : k = 0
  · have := h 1 (by omega) (by omega) (full_at _ _ (by omega))
    rw [one_at k 1 hk, decide_eq_false (by omega)] at this; cases this
  · have := h 0 (by omega) (by omega) (full_at _ _ (by omega))
    rw [one_at k 0 hk, decide_eq_false h0] at this; cases this
theorem j1 (k : Nat) (hk : k < 512) : joinR (one k) (full 512) = one k := by
  unfold joinR
  rw [if_pos ⟨one_len k, full_len _⟩]
  apply List.ext_getElem?
  intro i
  rw [joinN_at, List.length_replicate]
  by_cases h : i < 512
  · rw [if_pos ⟨h, h⟩, full_at _ _ h, Bool.and_true, List.getD_eq_getElem?_getD]
    rw [List.getElem?_eq_getElem (by rw [one_len]; exact h)]; rfl
  · rw [if_neg (fun x => h x.1), List.getElem?_eq_none (by rw [List.length_replicate]; omega), List.getElem?_eq_none (by rw [one_len]; omega)]
theorem r1 (k : Nat) (hk : k < 512) : readP (one k) ((k : Int) - 512) 1 = 0 := by
  have hp : placeC (one k) ((k : Int) - 512) 1 = 0 := by
    unfold placeC
    rw [if_neg (fun h => h.elim (fun h => h (one_len k)) (fun h => h (.inl rfl))), if_neg (by omega)]
  unfold readP
  rw [if_pos hp, if_pos]
  rw [show (1 : Int).toNat = 1 from rfl, allN_step _ _ _ _ (by omega), allN_end, Bool.and_true, show ((k : Int) - 512 + 512).toNat + 0 = k by omega, one_at k k hk, decide_eq_true rfl]
theorem numbers_L5 : ∀ (m k n : Nat), k + m = 512 → 2 * m + 1 ≤ n → law13StackNumbers_L5 n (k : Int) (full 513) = some true
  | 0, k, n, hk, hn => by
    obtain ⟨n', rfl⟩ : ∃ n', n = n' + 1 := ⟨n - 1, by omega⟩
    have hl : ((full 513).length : Nat) = 513 := full_len _
    rw [law13StackNumbers_L5_eq, decide_eq_false (by omega), forkB_false, if_pos (by rw [hl]; omega), if_pos (by rw [hl]; omega), stackTells_true, obind_of, forkB_true, if_pos (by rw [hl]; omega), if_pos (by rw [hl]; omega), stackTells_true, obind_of, forkB_true,
      stackJoin_r, obind_of, show joinR (full 513) (full 513) = [] by unfold joinR; rw [if_neg (by rw [hl]; omega)], show ((([] : List Bool).length : Nat) : Int) == 0 from rfl, forkB_true, stackWithin_r, obind_of, show withinR (full 513) (full 513) = false by unfold withinR; rw [hl]; rfl, Bool.not_false, forkB_true, awake13, obind_of]
  | m + 1, k, n, hk, hn => by
    obtain ⟨n', rfl⟩ : ∃ n', n = n' + 1 + 1 := ⟨n - 2, by omega⟩
    have hl : ((full 513).length : Nat) = 513 := full_len _
    have hk5 : k < 512 := by omega
    have hg1 : 0 ≤ (0 : Int) ∧ (0 : Int) ≤ (512 : Int) ∧ (512 : Int) ≤ (((full 513).length : Nat) : Int) := by rw [hl]; omega
    have hg2 : 512 ≤ (full 513).length := by omega
    have ht : List.take 512 (List.drop 0 (full 513)) = full 512 := by rw [List.drop_zero, full, List.take_replicate]; rfl
    rw [law13StackNumbers_L5_eq, decide_eq_true (by omega), forkB_true, if_pos (by omega), if_pos (by rw [List.length_replicate]; omega), Int.toNat_natCast, ht, show (List.replicate 512 false).set k true = one k from rfl,
      new_p, obind_of, stackWithin_r, obind_of, w1, Bool.not_true, forkB_false, obind_of, stackWithin_r, obind_of, w2 k hk5, forkB_false, if_pos hg1, if_pos hg2, stackWithin_r, obind_of, w3, Bool.not_true, forkB_false, if_pos hg1, if_pos hg2, stackWithin_r, obind_of, w4 k hk5, forkB_false, if_pos hg1, if_pos hg2,
      stackJoin_r, obind_of, j1 k hk5, sameTruths _ (by rw [one_len]; omega), obind_of, Bool.not_true, forkB_false, wrap64 (x := (k : Int) - 512) (by omega), law13_reads_eq, stackRead_r, obind_of, r1 k hk5, beq_self_eq_true, obind_of, Bool.not_true, law13StackNumbers_J6_eq, forkB_false, nx hk5 (by omega)]
    exact numbers_L5 m (k + 1) n' (by omega) (by omega)
theorem fill_all (n : Nat) : ∀ k, k < n → (List.replicate k true ++ List.replicate (n - k) false).set k true = List.replicate (k + 1) true ++ List.replicate (n - (k + 1)) false := by
  intro k hk
  obtain ⟨d, hd⟩ : ∃ d, n - k = d + 1 := ⟨n - k - 1, by omega⟩
  rw [List.set_append_right _ _ (by rw [List.length_replicate]; omega), List.length_replicate, Nat.sub_self, hd, show n - (k + 1) = d by omega, List.replicate_succ, List.replicate_succ', List.set_cons_zero, List.append_assoc]; rfl
theorem numbers_L0 (A B : List Int) (n : Nat) : law13StackNumbers_L0 (n + 1 + 513) 0 A B (List.replicate 513 false) = law13StackNumbers_L1 n 0 A B (full 513) := by
  have h : ∀ m k : Nat, k + m = 513 → law13StackNumbers_L0 (n + 1 + m) (k : Int) A B (List.replicate k true ++ List.replicate (513 - k) false) = law13StackNumbers_L1 n 0 A B (full 513) := by
    intro m
    induction m with
    | zero =>
      intro k hk
      have : k = 513 := by omega
      subst this
      rw [Nat.add_zero, law13StackNumbers_L0_eq, decide_eq_false (by rw [List.length_append, List.length_replicate, List.length_replicate]; omega), forkB_false, Nat.sub_self, List.replicate_zero, List.append_nil]; rfl
    | succ m ih =>
      intro k hk
      have hl : (List.replicate k true ++ List.replicate (513 - k) false).length = 513 := by rw [List.length_append, List.length_replicate, List.length_replicate]; omega
      rw [show n + 1 + (m + 1) = (n + 1 + m) + 1 by omega, law13StackNumbers_L0_eq, hl, decide_eq_true (by omega), forkB_true, if_pos (by omega), Int.toNat_natCast, fill_all 513 k (by omega), nx (len := 513) (by omega) (by omega)]
      exact ih (k + 1) (by omega)
  have := h 513 0 (by omega)
  rw [List.replicate_zero, List.nil_append] at this
  exact this
theorem stackNumbers_true : law13StackNumbers BIG = some true := by
  obtain ⟨n, e, hn⟩ : ∃ n : Nat, (BIG : Nat) = (n + 86 * 19 + 1) + 1 + 513 ∧ 2000 ≤ n := ⟨1000000000 - 86 * 19 - 2 - 513, by rfl, by omega⟩
  rw [law13StackNumbers_eq, if_pos (by omega), e, numbers_L0]
  obtain ⟨_, _, h⟩ := numbers_L1 [-9223372036854775808, -9223372036854775296, -520, -514, -513, -512, -511, -505, -504, -9, -8, -7, -4, -3, -2, -1, 0, 1, 9223372036854775807] [-9223372036854775808, -8, -1, 0, 1, 2, 3, 4, 5, 7, 8, 9, 16, 9223372036854775807] (full 513) rfl rfl (full_len _) (n + 86 * 19) (by omega)
  rw [h]
  exact numbers_L5 512 0 _ (by omega) (by omega)
end Go.Y
