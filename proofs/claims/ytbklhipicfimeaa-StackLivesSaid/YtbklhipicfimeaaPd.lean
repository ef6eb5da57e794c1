/- Whatever is set, read and joined of two rows. -/
import Derived.Test.YtbklhipicfimeaaPc
namespace Go.Y
open Go.RowKit Go.V Go.X Go.Proofs

theorem pick_p (x m : Int) (hm : 1 ≤ m ∧ m ≤ 4611686018427387904) : ∃ k : Nat, kitPick BIG x m = some ((k : Nat) : Int) ∧ (k : Int) < m := by
  rw [kitPick_eq, decide_eq_false (by omega), forkB_false, if_neg (by omega), forkB_if]
  have h1 : x.tmod m < m := Int.tmod_lt_of_pos x (by omega)
  have h2 : -m < x.tmod m := Int.lt_tmod_of_pos x (by omega)
  by_cases h : x.tmod m < 0
  · rw [if_pos (by simpa using h), wrap64 (by omega)]
    exact ⟨(x.tmod m + m).toNat, by rw [Int.toNat_of_nonneg (by omega)], by omega⟩
  · rw [if_neg (by simpa using h)]
    exact ⟨(x.tmod m).toNat, by rw [Int.toNat_of_nonneg (by omega)], by omega⟩
/-- two rows of 512 truths. -/
def Two (r : List (List Bool)) : Prop := ∃ p q, r = [p, q] ∧ p.length = 512 ∧ q.length = 512
theorem Two.len {r : List (List Bool)} (h : Two r) : r.length = 2 := by obtain ⟨p, q, rfl, _⟩ := h; rfl
theorem Two.set {r : List (List Bool)} (h : Two r) (k : Nat) (x : List Bool) (hx : x.length = 512) : Two (r.set k x) := by
  obtain ⟨p, q, rfl, hp, hq⟩ := h
  match k with
  | 0 => exact ⟨x, q, rfl, hx, hq⟩
  | 1 => exact ⟨p, x, rfl, hp, hx⟩
  | k + 2 => exact ⟨p, q, rfl, hp, hq⟩
theorem Two.get {r : List (List Bool)} (h : Two r) (k : Nat) (hk : k < 2) : (r.getD k []).length = 512 := by
  obtain ⟨p, q, rfl, hp, hq⟩ := h
  match k, hk with
  | 0, _ => exact hp
  | 1, _ => exact hq
theorem setP_512 {b : List Bool} {at_ sz : Int} (h : (setP b at_ sz).2 = 0) : (setP b at_ sz).1.length = 512 := by
  unfold setP at h ⊢
  split at h
  · rename_i h1; rw [if_pos h1, fillN_len]; exact (placeC_0 h1).1
  · rename_i h1; exact (h1 h).elim
theorem joinR_512 {a b : List Bool} (ha : a.length = 512) (hb : b.length = 512) : (joinR a b).length = 512 := by
  unfold joinR; rw [if_pos ⟨ha, hb⟩, joinN_len, List.length_replicate]
theorem lives_J2 (n : Nat) (l : List Do) (k : Int) (hk : -1000 ≤ k ∧ k ≤ 1000) (s : Nat) (hs : s < 2) (r : List (List Bool)) (hr : Two r) : law13StackLives_J2 (n + 1 + 1) l k (s : Int) r r = law13StackLives_L0 n l (k + 1) r r := by
  have hl := hr.len
  rw [law13StackLives_J2_eq, if_pos (by rw [hl]; omega), if_pos (by rw [hl]; omega), Int.toNat_natCast, sameTruths _ (by rw [hr.get s hs]; omega), obind_of, Bool.not_true, forkB_false, if_pos (by rw [hl]; omega), if_pos (by rw [hl]; omega),
    stackWithin_r, obind_of, if_pos (by rw [hl]; omega), if_pos (by rw [hl]; omega), within_r, obind_of, beq_self_eq_true, Bool.not_true, law13StackLives_J3_eq, forkB_false, wrap64 (by omega)]
theorem lives_J1 (n : Nat) (l : List Do) (k : Nat) (hk : k < l.length) (hk2 : k < 60) (r : List (List Bool)) (hr : Two r) : ∃ r', Two r' ∧ law13StackLives_J1 (n + 1 + 1 + 1) l (k : Int) true r r = law13StackLives_L0 n l ((k + 1 : Nat) : Int) r' r' := by
  obtain ⟨s, hs, hs2⟩ := pick_p (l.getD k dDo).Which 2 (by omega)
  obtain ⟨o, ho, ho2⟩ := pick_p (l.getD k dDo).Op 6 (by omega)
  have hl := hr.len
  have hk1 : 0 ≤ (k : Int) ∧ (k : Int) < ((l.length : Nat) : Int) := by omega
  have hr1 : 0 ≤ (s : Int) ∧ (s : Int) < ((r.length : Nat) : Int) := by rw [hl]; omega
  have e := fun r' (hr' : Two r') => lives_J2 n l (k : Int) (by omega) s (by omega) r' hr'
  rw [law13StackLives_J1_eq, forkB_true, if_pos hk1, Int.toNat_natCast, hs, obind_of, if_pos hk1, ho, obind_of, Int.toNat_natCast]
  by_cases h3 : ((o : Nat) : Int) = 3
  · refine ⟨r, hr, ?_⟩
    rw [h3, beq_self_eq_true, forkB_true, if_pos hr1, if_pos hk1, if_pos hk1, stackRead_r, obind_of, if_pos hr1, if_pos hk1, if_pos hk1, read_r, obind_of, show (∀ x : Int, (x != x) = false) from fun x => by simp, forkB_false, e r hr]; rfl
  rw [show (((o : Nat) : Int) == 3) = false by simpa using h3, forkB_false]
  by_cases h4 : ((o : Nat) : Int) = 4
  · have hj := joinR_512 (hr.get 0 (by omega)) (hr.get 1 (by omega))
    refine ⟨r.set s (joinR (r.getD 0 []) (r.getD 1 [])), hr.set _ _ hj, ?_⟩
    rw [h4, beq_self_eq_true, forkB_true, if_pos (by rw [hl]; omega), if_pos (by rw [hl]; omega), stackJoin_r, obind_of, if_pos (by rw [hl]; omega), if_pos (by rw [hl]; omega), join_r, obind_of, if_pos hr1, if_pos hr1, e _ (hr.set _ _ hj)]; rfl
  rw [show (((o : Nat) : Int) == 4) = false by simpa using h4, forkB_false]
  by_cases h5 : ((o : Nat) : Int) = 5
  · refine ⟨r.set s (List.replicate 512 false), hr.set _ _ (List.length_replicate ..), ?_⟩
    rw [h5, beq_self_eq_true, forkB_true, new_p, obind_of, new_r, obind_of, if_pos hr1, if_pos hr1, e _ (hr.set _ _ (List.length_replicate ..))]; rfl
  rw [show (((o : Nat) : Int) == 5) = false by simpa using h5, forkB_false, if_pos hr1, if_pos hk1, if_pos hk1, stackSet_r, obind_of, if_pos hr1, if_pos hk1, if_pos hk1, set_r, obind_of, show (∀ x : Int, (x != x) = false) from fun x => by simp, forkB_false]
  by_cases h0 : (setP (r.getD s []) (l.getD k dDo).At (l.getD k dDo).Size).2 = 0
  · refine ⟨r.set s (setP (r.getD s []) (l.getD k dDo).At (l.getD k dDo).Size).1, hr.set _ _ (setP_512 h0), ?_⟩
    rw [h0, beq_self_eq_true, forkB_true, if_pos hr1, if_pos hr1, e _ (hr.set _ _ (setP_512 h0))]; rfl
  · refine ⟨r, hr, ?_⟩
    rw [show ((setP (r.getD s []) (l.getD k dDo).At (l.getD k dDo).Size).2 == 0) = false by simpa using h0, forkB_false, e _ hr]; rfl
theorem lives_end (n : Nat) (l : List Do) (k : Int) (r : List (List Bool)) : law13StackLives_J1 (n + 1) l k false r r = some true := by
  rw [law13StackLives_J1_eq, forkB_false, awake13, obind_of]
theorem lives_loop (l : List Do) : ∀ (m k n : Nat) (r : List (List Bool)), k + m = 60 → 4 * m + 2 ≤ n → Two r → law13StackLives_L0 n l (k : Int) r r = some true
  | m, k, n, r, hk, hn, hr => by
    obtain ⟨n', rfl⟩ : ∃ n', n = n' + 1 + 1 := ⟨n - 2, by omega⟩
    rw [law13StackLives_L0_eq]
    by_cases h1 : (k : Int) < ((l.length : Nat) : Int)
    · rw [decide_eq_true h1, forkB_true]
      match m with
      | 0 => rw [decide_eq_false (by omega), lives_end]
      | m + 1 =>
        obtain ⟨n2, rfl⟩ : ∃ n2, n' = n2 + 1 + 1 := ⟨n' - 2, by omega⟩
        rw [decide_eq_true (by omega)]
        obtain ⟨r', hr', h⟩ := lives_J1 n2 l k (by omega) (by omega) r hr
        rw [h]
        exact lives_loop l m (k + 1) n2 r' (by omega) (by omega) hr'
    · rw [decide_eq_false h1, forkB_false, lives_end]
theorem stackLives_true (l : List Do) : law13StackLives BIG l = some true := by
  rw [law13StackLives_eq, new_p, obind_of, obind_of, new_r, obind_of, obind_of]
  exact lives_loop l 60 0 BIG _ (by omega) (by unfold BIG; omega) ⟨_, _, rfl, List.length_replicate .., List.length_replicate ..⟩
end Go.Y
