/- What may come behind: the program and the document tell the same. -/
import Derived.Test.YtdlmkfnjljlmgaaPa
namespace Go.Y
open Go.RowKit Go.V Go.X Go.Proofs

theorem less_p (x y : Int) : cmpLess BIG x y = some (decide (x < y)) := by
  rw [cmpLess_eq, cmp_isNaN_eq, obind_of]
  simp [forkB_if]
theorem ins1 (a : Int) : slicesSort BIG [a] = some ([a], ()) := by kernel_rfl
theorem ins2a (a b : Int) : slices_insertionSortOrdered BIG [a, b] 0 2 = obind (cmpLess BIG b a) (fun y => forkB y (some ([b, a], ())) (some ([a, b], ()))) := by kernel_rfl
theorem ins2b (a b : Int) : slicesSort BIG [a, b] = obind (obind (slices_insertionSortOrdered BIG [a, b] 0 2) fun y => some (y.1, ())) fun y => some (y.1, ()) := by kernel_rfl
theorem ins2 (a b : Int) : slicesSort BIG [a, b] = some (if b < a then [b, a] else [a, b], ()) := by
  rw [ins2b, ins2a, less_p, obind_of]
  by_cases h : b < a
  · rw [if_pos h, decide_eq_true h]; rfl
  · rw [if_neg h, decide_eq_false h]; rfl
theorem cut1 (a b : Int) : slicesSort_g1 BIG [a, b] 1 1 = some (([a, b], ()), ()) := by kernel_rfl
theorem com1 (a : Int) : slicesCompact_g2 BIG [a] = some (([a], ()), ((0, 1), ())) := by kernel_rfl
theorem com2 (a b : Int) : slicesCompact_g2 BIG [a, b] = forkB (b == a) (some (([a, 0], ()), ((0, 1), ()))) (some (([a, b], ()), ((0, 2), ()))) := by kernel_rfl
theorem com3 (a b : Int) : slicesCompact_g1 BIG [a, b] 1 1 = some (([a, b], ()), ((1, 1), ())) := by kernel_rfl
/-- What may come behind. -/
def behindP (i : Ins) (nx to : Int) : List Int := if i.Op = 16 then [to] else if 17 ≤ i.Op ∧ i.Op ≤ 27 then (if to < nx then [to, nx] else if nx < to then [nx, to] else [nx]) else [nx]
def nextP (l : List Ins) (at_ : Int) : List Int :=
  if 0 ≤ at_ ∧ at_ < l.length then
    let i := l.getD at_.toNat dIns
    if rightP i = true ∧ i.Op ≠ 28 then behindP i (IntKind.i64.wrap (at_ + 1)) (IntKind.i64.wrap (IntKind.i64.wrap (at_ + 1) + i.Off)) else []
  else []
/-- rows of which a part is told. -/
def Part (y : List Int) (o n : Nat) (l : List Int) : Prop := o + n ≤ y.length ∧ List.take n (List.drop o y) = l
theorem behind_ref (n : Nat) (hn : 5 ≤ n) (at_ to : Int) (i : Ins) (h16 : i.Op ≠ 16) (h28 : i.Op ≠ 28) : (forkB (i.Op == 28) (some ([] : List Int)) (forkB (i.Op == 16) (some [to]) (obind (ref06Cond BIG i) fun y1 => forkB y1 (ref06Next_J1 n at_ to (decide (to < IntKind.i64.wrap (at_ + 1))) i.Op i.Narrow i.Dst i.Src i.UseImm i.Off i.Imm i.Size) (ref06Next_J1 n at_ to false i.Op i.Narrow i.Dst i.Src i.UseImm i.Off i.Imm i.Size)))) = some (behindP i (IntKind.i64.wrap (at_ + 1)) to) := by
  obtain ⟨m, rfl⟩ : ∃ m, n = m + 5 := ⟨n - 5, by omega⟩
  obtain ⟨op, nw, d, s, u, off, imm, sz⟩ := i
  simp only at h16 h28
  simp only [cond_p, obind_of, ref06Next_J1_eq, ref06Next_J2_eq, forkB_if]
  unfold behindP
  grind
theorem next_r (l : List Ins) (at_ : Int) : ref06Next BIG l at_ = some (nextP l at_) := by
  rw [ref06Next_eq]
  have key : ∀ b, ref06Next_J0 BIG l at_ b = if b = true then some [] else if 0 ≤ at_ ∧ at_ < ((l.length : Nat) : Int) then some (if (l.getD at_.toNat dIns).Op = 28 then [] else behindP (l.getD at_.toNat dIns) (IntKind.i64.wrap (at_ + 1)) (IntKind.i64.wrap (IntKind.i64.wrap (at_ + 1) + (l.getD at_.toNat dIns).Off))) else none := by
    intro b
    rw [ref06Next_J0_eq, forkB_if]
    by_cases hb : b = true
    · rw [if_pos hb, if_pos hb]
    · rw [if_neg hb, if_neg hb]
      by_cases ha : 0 ≤ at_ ∧ at_ < ((l.length : Nat) : Int)
      · rw [if_pos ha, if_pos ha]
        generalize l.getD at_.toNat dIns = i
        by_cases h28 : i.Op = 28
        · rw [h28, if_pos rfl]; rfl
        · by_cases h16 : i.Op = 16
          · rw [if_neg h28]
            unfold behindP
            rw [if_pos h16, h16]; rfl
          · rw [if_neg h28]
            exact behind_ref _ (by decide) at_ _ i h16 h28
      · rw [if_neg ha, if_neg ha]
  simp only [key, right_r, obind_of]
  unfold nextP
  simp only [forkB_if]
  grind
theorem next_g1 (l : List Ins) (at_ : Int) : ∃ y o n, insNext_g1 BIG l at_ = some ((), ((y, o, n), ())) ∧ Part y o n (nextP l at_) := by
  have key : ∀ b, (b = false → 0 ≤ at_ ∧ at_ < ((l.length : Nat) : Int)) → ∃ y o n, insNext_g1_J0 BIG l at_ b = some ((), ((y, o, n), ())) ∧ Part y o n (if b = true then [] else behindP (l.getD at_.toNat dIns) (IntKind.i64.wrap (at_ + 1)) (IntKind.i64.wrap (IntKind.i64.wrap (at_ + 1) + (l.getD at_.toNat dIns).Off))) := by
    intro b hb
    rw [insNext_g1_J0_eq, forkB_if]
    by_cases hbt : b = true
    · rw [if_pos hbt, if_pos hbt]; exact ⟨[], 0, 0, rfl, by simp, rfl⟩
    · rw [if_neg hbt, if_neg hbt]
      have ha := hb (by simpa using hbt)
      rw [if_pos ha, if_pos ha, jumps_p, obind_of]
      simp only [insNext_g1_J1_eq, if_pos ha]
      generalize l.getD at_.toNat dIns = i
      generalize IntKind.i64.wrap (at_ + 1) = nx
      generalize IntKind.i64.wrap (nx + i.Off) = to
      unfold behindP
      by_cases h16 : i.Op = 16
      · rw [if_pos h16, h16]
        refine ⟨[nx, to], 1, 1, ?_, by simp, rfl⟩
        have e1 : (((([nx, to] : List Int).length : Nat) : Int).toNat) - 1 = 1 := rfl
        rw [show (decide (16 ≤ (16 : Int)) && decide ((16 : Int) ≤ 27)) = true from rfl, show ((16 : Int) == 16) = true from rfl, forkB_true, forkB_true, if_pos (by simp), e1, cut1, obind_of, com3, obind_of]
      · rw [if_neg h16]
        have e16 : (i.Op == 16) = false := by simpa using h16
        by_cases hj : 17 ≤ i.Op ∧ i.Op ≤ 27
        · rw [if_pos hj, e16, show (decide (16 ≤ i.Op) && decide (i.Op ≤ 27)) = true from by simp; omega, forkB_true, forkB_false, ins2, obind_of]
          by_cases h1 : to < nx
          · rw [if_pos h1, if_pos h1, com2, show (nx == to) = false from by simp; omega, forkB_false, obind_of]
            exact ⟨_, _, _, rfl, by simp, rfl⟩
          · rw [if_neg h1, if_neg h1, com2]
            by_cases h2 : nx < to
            · rw [if_pos h2, show (to == nx) = false from by simp; omega, forkB_false, obind_of]
              exact ⟨_, _, _, rfl, by simp, rfl⟩
            · rw [if_neg h2, show (to == nx) = true from by simp; omega, forkB_true, obind_of]
              exact ⟨_, _, _, rfl, by simp, rfl⟩
        · rw [if_neg hj, e16, show (decide (16 ≤ i.Op) && decide (i.Op ≤ 27)) = false from by simp; omega, forkB_false, forkB_false, ins1, obind_of, com1, obind_of]
          exact ⟨_, _, _, rfl, by simp, rfl⟩
  rw [insNext_g1_eq]
  unfold nextP
  by_cases h1 : at_ < 0
  · rw [decide_eq_true h1, forkB_true, if_neg (by omega)]
    simpa using key true (by simp)
  rw [decide_eq_false h1, forkB_false]
  by_cases h2 : at_ ≥ ((l.length : Nat) : Int)
  · rw [decide_eq_true h2, forkB_true, if_neg (by omega)]
    simpa using key true (by simp)
  have ha : 0 ≤ at_ ∧ at_ < ((l.length : Nat) : Int) := by omega
  rw [decide_eq_false h2, forkB_false, if_pos ha, if_pos ha, right_p, obind_of]
  simp only [if_pos ha]
  cases hr : rightP (l.getD at_.toNat dIns) with
  | false => simpa [forkB_true] using key true (by simp)
  | true =>
    simp only [Bool.not_true, forkB_false, true_and]
    by_cases h28 : (l.getD at_.toNat dIns).Op = 28
    · rw [if_neg (fun h => h h28), show ((l.getD at_.toNat dIns).Op == 28) = true from by simpa using h28]
      simpa using key true (by simp)
    · rw [if_pos h28, show ((l.getD at_.toNat dIns).Op == 28) = false from by simpa using h28]
      simpa using key false (fun _ => ha)
end Go.Y
