/- What may come behind, told of a list that is lent; and the law of it. -/
import Derived.Test.YtdlmkfnjljlmgaaPk
namespace Go.Y
open Go.RowKit Go.V Go.X Go.Proofs

theorem next_g3 (l b : List Ins) (at_ : Int) : ∃ y o n, insNext_g3 BIG (l ++ b) 0 l.length at_ = some ((l ++ b, ()), ((y, o, n), ())) ∧ Part y o n (nextP l at_) := by
  have hg : 0 ≤ at_ ∧ at_ < ((l.length : Nat) : Int) → (l ++ b).getD (0 + at_.toNat) dIns = l.getD at_.toNat dIns := fun ha => by
    rw [Nat.zero_add, List.getD_eq_getElem?_getD, List.getD_eq_getElem?_getD, List.getElem?_append_left (by omega)]
  have hr : 0 ≤ at_ ∧ at_ < ((l.length : Nat) : Int) → 0 + at_.toNat < (l ++ b).length := fun ha => by
    rw [List.length_append]; omega
  have key : ∀ c, (c = false → 0 ≤ at_ ∧ at_ < ((l.length : Nat) : Int)) → ∃ y o n, insNext_g3_J0 BIG 0 l.length at_ c (l ++ b) = some ((l ++ b, ()), ((y, o, n), ())) ∧ Part y o n (if c = true then [] else behindP (l.getD at_.toNat dIns) (IntKind.i64.wrap (at_ + 1)) (IntKind.i64.wrap (IntKind.i64.wrap (at_ + 1) + (l.getD at_.toNat dIns).Off))) := by
    intro c hb
    rw [insNext_g3_J0_eq, forkB_if]
    by_cases hbt : c = true
    · rw [if_pos hbt, if_pos hbt]; exact ⟨[], 0, 0, rfl, by simp, rfl⟩
    · rw [if_neg hbt, if_neg hbt]
      have ha := hb (by simpa using hbt)
      simp only [if_pos ha, if_pos (hr ha), hg ha, jumps_p, obind_of, insNext_g3_J1_eq]
      generalize l.getD at_.toNat dIns = i
      generalize IntKind.i64.wrap (at_ + 1) = nx
      generalize IntKind.i64.wrap (nx + i.Off) = to
      unfold behindP
      by_cases h16 : i.Op = 16
      · rw [if_pos h16, h16]
        refine ⟨[nx, to], 1, 1, ?_, by simp, rfl⟩
        have e1 : (((([nx, to] : List Int).length : Nat) : Int).toNat) - 1 = 1 := rfl
        rw [show (decide (16 ≤ (16 : Int)) && decide ((16 : Int) ≤ 27)) = true from rfl, show ((16 : Int) == 16) = true from rfl, forkB_true, forkB_true, if_pos (by simp), e1, cut1, obind_of, com3, obind_of]
      · rw [if_neg h16]
        have e16 : (i.Op == 16) = false := by simpa using h16
        by_cases hj : 17 ≤ i.Op ∧ i.Op ≤ 27
        · rw [if_pos hj, e16, show (decide (16 ≤ i.Op) && decide (i.Op ≤ 27)) = true from by simp; omega, forkB_true, forkB_false, ins2, obind_of]
          by_cases h1 : to < nx
          · rw [if_pos h1, if_pos h1, com2, show (nx == to) = false from by simp; omega, forkB_false, obind_of]
            exact ⟨_, _, _, rfl, by simp, rfl⟩
          · rw [if_neg h1, if_neg h1, com2]
            by_cases h2 : nx < to
            · rw [if_pos h2, show (to == nx) = false from by simp; omega, forkB_false, obind_of]
              exact ⟨_, _, _, rfl, by simp, rfl⟩
            · rw [if_neg h2, show (to == nx) = true from by simp; omega, forkB_true, obind_of]
              exact ⟨_, _, _, rfl, by simp, rfl⟩
        · rw [if_neg hj, e16, show (decide (16 ≤ i.Op) && decide (i.Op ≤ 27)) = false from by simp; omega, forkB_false, forkB_false, ins1, obind_of, com1, obind_of]
          exact ⟨_, _, _, rfl, by simp, rfl⟩
  rw [insNext_g3_eq]
  unfold nextP
  by_cases h1 : at_ < 0
  · rw [decide_eq_true h1, forkB_true, if_neg (by omega)]
    simpa using key true (by simp)
  rw [decide_eq_false h1, forkB_false]
  by_cases h2 : at_ ≥ ((l.length : Nat) : Int)
  · rw [decide_eq_true h2, forkB_true, if_neg (by omega)]
    simpa using key true (by simp)
  have ha : 0 ≤ at_ ∧ at_ < ((l.length : Nat) : Int) := by omega
  rw [decide_eq_false h2, forkB_false]
  simp only [if_pos ha, if_pos (hr ha), hg ha, right_p, obind_of]
  cases hr : rightP (l.getD at_.toNat dIns) with
  | false => simpa [forkB_true] using key true (by simp)
  | true =>
    simp only [Bool.not_true, forkB_false, true_and]
    by_cases h28 : (l.getD at_.toNat dIns).Op = 28
    · rw [if_neg (fun h => h h28), show ((l.getD at_.toNat dIns).Op == 28) = true from by simpa using h28]
      simpa using key true (by simp)
    · rw [if_pos h28, show ((l.getD at_.toNat dIns).Op == 28) = false from by simpa using h28]
      simpa using key false (fun _ => ha)
theorem nextP_len (l : List Ins) (a : Int) : (nextP l a).length ≤ 400000000 := by
  unfold nextP behindP; grind
theorem insRight_true (l : List Ins) (a : Int) : law06InsRight BIG l a = some true := by
  rw [law06InsRight_eq, awake06, obind_of, Bool.not_true, forkB_false]
  by_cases hl : ((l.length : Nat) : Int) > 400
  · rw [decide_eq_true hl, forkB_true]
  rw [decide_eq_false hl, forkB_false]
  refine loop0 (fun n k => law06InsRight_L0 n l a (k : Int)) 2 l.length _ (fun n k hk => ?_) (fun n => ?_) BIG (by unfold BIG; omega)
  · show law06InsRight_L0 (n + 1 + 1) l a (k : Int) = law06InsRight_L0 n l a ((k + 1 : Nat) : Int)
    have hk' : 0 ≤ (k : Int) ∧ (k : Int) < ((l.length : Nat) : Int) := by omega
    obtain ⟨y, o, m, e, hp⟩ := next_g1 l (k : Int)
    rw [law06InsRight_L0_eq, decide_eq_true hk'.2, forkB_true]
    simp only [if_pos hk', right_p, right_r, jumps_p, jumps_r, obind_of, beq_self_eq_true, Bool.not_true, forkB_false, e, next_r]
    rw [if_pos hp.1, hp.2, sameInts _ (nextP_len _ _), obind_of, law06InsRight_J1_eq, Bool.not_true, forkB_false, nx hk (by omega)]
  · show law06InsRight_L0 (n + 1) l a ((l.length : Nat) : Int) = some true
    obtain ⟨y, o, m, e, hp⟩ := next_g3 l marksI a
    rw [law06InsRight_L0_eq, decide_eq_false (by omega), forkB_false, lentIns l (by omega), obind_of, e, obind_of, next_r, obind_of]
    simp only
    rw [if_pos hp.1, hp.2, sameInts _ (nextP_len _ _), obind_of, forkB_true, keptIns l (by omega), obind_of]
end Go.Y
