/- What a checked shape tells: the laws FormCut, FormEnds, FormLong. -/
import Derived.Test.YtdlmkfnjljlmgaaQc
namespace Go.Y
open Go.RowKit Go.V Go.X Go.Proofs

theorem scan_some (code : Nat → Int) : ∀ m k F, scan code k m = some F → ∃ j, k ≤ j ∧ j < k + m ∧ code j ≠ 0 ∧ F = ⟨code j, (j : Int)⟩
  | 0, _, _, h => by cases h
  | m + 1, k, F, h => by
    unfold scan at h
    split at h
    · obtain ⟨j, h1, h2, h3, h4⟩ := scan_some code m (k + 1) F h
      exact ⟨j, by omega, by omega, h3, h4⟩
    · rename_i hc
      cases h
      exact ⟨k, by omega, by omega, hc, rfl⟩
theorem scan_zero (code : Nat → Int) : ∀ m k, scan code k m = none → ∀ j, k ≤ j → j < k + m → code j = 0
  | 0, _, _, j, h1, h2 => by omega
  | m + 1, k, h, j, h1, h2 => by
    unfold scan at h
    split at h
    · rename_i hc
      by_cases e : j = k
      · rw [e]; exact hc
      · exact scan_zero code m (k + 1) h j (by omega) (by omega)
    · cases h
/-- what a right shape tells. -/
structure Okay (l : List Ins) : Prop where
  pos : 0 < l.length
  len : l.length ≤ 4096
  z1 : ∀ k, k < l.length → c1 l k = 0
  z2 : ∀ k, k < l.length → c2 l k = 0
  z3 : ∀ k, k < l.length → c3 l k = 0
  z4 : ∀ k, k < l.length → c4 l k = 0
theorem getD_zero {o : Option Fault} {d : Fault} (h : ∀ F, o = some F → F.Err ≠ 0) (he : (o.getD d).Err = 0) : o = none ∧ d.Err = 0 := by
  cases o with
  | none => exact ⟨rfl, he⟩
  | some F => exact absurd he (h F rfl)
theorem scan_err (code : Nat → Int) (m k : Nat) (F : Fault) (h : scan code k m = some F) : F.Err ≠ 0 := by
  obtain ⟨j, _, _, h3, rfl⟩ := scan_some code m k F h
  exact h3
theorem okay_of {l : List Ins} (h : (checkP l).Err = 0) : Okay l := by
  unfold checkP at h
  by_cases h0 : l.length = 0
  · rw [if_pos h0] at h; cases h
  rw [if_neg h0] at h
  by_cases h1 : l.length > 4096
  · rw [if_pos h1] at h; cases h
  rw [if_neg h1] at h
  obtain ⟨a1, h⟩ := getD_zero (scan_err _ _ _) h
  obtain ⟨a2, h⟩ := getD_zero (scan_err _ _ _) h
  obtain ⟨a3, h⟩ := getD_zero (scan_err _ _ _) h
  obtain ⟨a4, h⟩ := getD_zero (scan_err _ _ _) h
  exact ⟨by omega, by omega, fun k hk => scan_zero _ _ _ a1 k (by omega) (by omega), fun k hk => scan_zero _ _ _ a2 k (by omega) (by omega), fun k hk => scan_zero _ _ _ a3 k (by omega) (by omega), fun k hk => scan_zero _ _ _ a4 k (by omega) (by omega)⟩
theorem Okay.fwd {l : List Ins} (h : Okay l) : Fwd l := fwd_of h.len h.z1 h.z2 h.z3
theorem next_ne {l : List Ins} (h : Okay l) (k : Nat) (hk : k < l.length) (h28 : (l.getD k dIns).Op ≠ 28) : nextP l (k : Int) ≠ [] := by
  unfold nextP
  rw [if_pos (by omega)]
  simp only [Int.toNat_natCast]
  rw [if_pos ⟨c1_right (h.z1 k hk), h28⟩]
  unfold behindP
  split
  · simp
  · split
    · split
      · simp
      · split <;> simp
    · simp
theorem ends_L1 {l : List Ins} (h : Okay l) (hl : l.length ≤ 300) (bs : List Bool) (s7 : Int) : ∀ (d k : Nat) (j : Nat) (n : Nat), k + d = l.length → k < l.length → 1 ≤ j → ((j : Nat) : Int) - 1 + (d : Int) ≤ s7 → s7 ≤ 1000 → 10 * d ≤ n → law08FormEnds_L1 n l ((k : Nat) : Int) bs s7 ((j : Nat) : Int) = some true
  | 0, k, j, n, hd, hk, _, _, _, _ => by omega
  | d + 1, k, j, n, hd, hk, hj, hs, hs7, hn => by
    obtain ⟨n, rfl⟩ : ∃ i, n = i + 4 := ⟨n - 4, by omega⟩
    have q : 0 ≤ ((k : Nat) : Int) ∧ ((k : Nat) : Int) < ((l.length : Nat) : Int) := by omega
    rw [law08FormEnds_L1_eq, decide_eq_true (by omega), forkB_true, if_pos q, Int.toNat_natCast, forkB_if]
    by_cases h28 : (l.getD k dIns).Op = 28
    · rw [if_pos (by simpa using h28)]
    rw [if_neg (by simpa using h28)]
    obtain ⟨y, o, m, e, hp⟩ := next_g1 l (k : Int)
    have hm : (nextP l (k : Int)).length = m := by
      rw [← hp.2, List.length_take, List.length_drop]; have := hp.1; omega
    have hm0 : m ≠ 0 := fun e0 => next_ne h k hk h28 (List.length_eq_zero_iff.1 (by omega))
    have hn4 : (nextP l (k : Int)).length ≤ 2 := by unfold nextP behindP; grind
    rw [e, obind_of]
    dsimp only
    rw [show (((m : Nat) : Int) == 0) = false from beq_eq_false_iff_ne.2 (by omega), forkB_false]
    have J2 : ∀ c : Nat, c < m → law08FormEnds_J2 (n + 2) l ((k : Nat) : Int) bs s7 ((j : Nat) : Int) o m ((c : Nat) : Int) y = some true := by
      intro c hc
      have hx := (partAt hp c hc).1
      have hb := h.fwd k hk _ (getMem (nextP l (k : Int)) c (by omega))
      have hpo := hp.1
      have q1 : 0 ≤ ((c : Nat) : Int) ∧ ((c : Nat) : Int) < ((m : Nat) : Int) := by omega
      have q2 : o + ((c : Nat) : Int).toNat < y.length := by omega
      rw [law08FormEnds_J2_eq, if_pos q1, if_pos q2, Int.toNat_natCast, hx]
      generalize (nextP l (k : Int)).getD c 0 = x at *
      obtain ⟨x', rfl⟩ : ∃ x' : Nat, x = (x' : Int) := ⟨x.toNat, by omega⟩
      rw [decide_eq_false (by omega), forkB_false, if_pos q1, if_pos (by omega), decide_eq_false (by omega), law08FormEnds_J4_eq, forkB_false, if_pos q1, if_pos q2, Int.toNat_natCast, hx, wrap64 (by omega)]
      exact ends_L1 h hl bs s7 (l.length - x') x' (j + 1) n (by omega) (by omega) (by omega) (by omega) hs7 (by omega)
    have J3 : ∀ b, law08FormEnds_J3 (n + 3) l ((k : Nat) : Int) bs s7 ((j : Nat) : Int) o m 0 b y = some true := by
      intro b
      rw [law08FormEnds_J3_eq]
      cases b with
      | false => rw [forkB_false]; exact J2 0 (by omega)
      | true =>
        rw [forkB_true, wrap64 (by omega), show ((m : Nat) : Int) - 1 = ((m - 1 : Nat) : Int) by omega]
        exact J2 (m - 1) (by omega)
    rw [J3, forkB_if]
    split
    · rw [wrap64 (by omega)]
      rename_i hlt
      rw [decide_eq_true_iff] at hlt
      rw [if_pos (by omega)]
    · exact J3 false
theorem formEnds_true (l : List Ins) (a : Int) (bs : List Bool) : law08FormEnds BIG l a bs = some true := by
  rw [law08FormEnds_eq, awake08, obind_of, Bool.not_true, forkB_false]
  by_cases hl : ((l.length : Nat) : Int) > 300
  · rw [decide_eq_true hl, forkB_true, law08FormEnds_J0_eq, forkB_true]
  rw [decide_eq_false hl, forkB_false, check_p, obind_of, forkB_if]
  by_cases he : (checkP l).Err = 0
  · rw [if_neg (by simpa using he)]
    have hO := okay_of he
    by_cases h1 : a < 0
    · rw [decide_eq_true h1, forkB_true, law08FormEnds_J0_eq, forkB_true]
    rw [decide_eq_false h1, forkB_false, law08FormEnds_J0_eq]
    by_cases h2 : a ≥ ((l.length : Nat) : Int)
    · rw [decide_eq_true h2, forkB_true]
    rw [decide_eq_false h2, forkB_false, wrap64 (by omega)]
    obtain ⟨k, rfl⟩ : ∃ k : Nat, a = (k : Int) := ⟨a.toNat, by omega⟩
    exact ends_L1 hO (by omega) bs _ (l.length - k) k 1 _ (by omega) (by omega) (by omega) (by omega) (by omega) (by omega)
  · rw [if_pos (by simpa using he), law08FormEnds_J0_eq, forkB_true]
end Go.Y
