/- Which instructions are right: the program and the document tell the same. -/
import Derived.Test.YtdlmkfnjljlmgaaId
namespace Go.Y
open Go.RowKit Go.V Go.X Go.Proofs

theorem forkB_if {R : Type} (c : Bool) (x y : Option R) : forkB c x y = if c = true then x else y := rfl
theorem forkB_true {R : Type} (x y : Option R) : forkB true x y = x := rfl
theorem forkB_false {R : Type} (x y : Option R) : forkB false x y = y := rfl
theorem obind_of {α β : Type} (a : α) (f : α → Option β) : obind (some a) f = f a := rfl
theorem forkB_some {R : Type} (c : Bool) (x y : R) : forkB c (some x) (some y) = some (if c = true then x else y) := by cases c <;> rfl
theorem forkB_and (c x : Bool) : forkB c (some x) (some false) = some (c && x) := by cases c <;> rfl
theorem forkB_or (c x : Bool) : forkB c (some true) (some x) = some (c || x) := by cases c <;> rfl
theorem index4 (x : Int) : slicesIndex BIG [1, 2, 4, 8] x = forkB (x == 1) (some 0) (forkB (x == 2) (some 1) (forkB (x == 4) (some 2) (forkB (x == 8) (some 3) (some (-1))))) := by kernel_rfl
def sizedP (x : Int) : Bool := x == 1 || (x == 2 || (x == 4 || x == 8))
theorem contains4 (x : Int) : slicesContains BIG [1, 2, 4, 8] x = some (sizedP x) := by
  rw [slicesContains_eq, index4]
  unfold sizedP
  cases x == 1 <;> cases x == 2 <;> cases x == 4 <;> cases x == 8 <;> rfl
theorem within_p (x a b : Int) : ins_within BIG x a b = some (decide (a ≤ x) && decide (x ≤ b)) := by rw [ins_within_eq, forkB_and]
/-- Right, field by field. -/
def regP (n m : Int) : Bool := decide (0 ≤ n) && decide (n ≤ m)
def secondP (i : Ins) : Bool := if i.UseImm = true then i.Src == 0 && (decide (-2147483648 ≤ i.Imm) && decide (i.Imm < 2147483648)) else regP i.Src 10 && i.Imm == 0
def farP (i : Ins) : Bool := decide (-32768 ≤ i.Off) && decide (i.Off < 32768)
def rightP (i : Ins) : Bool :=
  if 1 ≤ i.Op ∧ i.Op ≤ 12 then regP i.Dst 9 && (secondP i && (i.Off == 0 && i.Size == 0))
  else if i.Op = 13 then regP i.Dst 9 && (i.Src == 0 && (!i.UseImm && (i.Off == 0 && (i.Imm == 0 && i.Size == 0))))
  else if i.Op = 14 then regP i.Dst 9 && (regP i.Src 10 && (farP i && (sizedP i.Size && (!i.Narrow && (!i.UseImm && i.Imm == 0)))))
  else if i.Op = 15 then regP i.Dst 10 && (farP i && (sizedP i.Size && (secondP i && !i.Narrow)))
  else if i.Op = 16 then farP i && (!i.Narrow && (i.Dst == 0 && (i.Src == 0 && (!i.UseImm && (i.Imm == 0 && i.Size == 0)))))
  else if 17 ≤ i.Op ∧ i.Op ≤ 27 then regP i.Dst 10 && (farP i && (secondP i && i.Size == 0))
  else decide (i.Op = 28) && (!i.Narrow && (i.Dst == 0 && (i.Src == 0 && (!i.UseImm && (i.Off == 0 && (i.Imm == 0 && i.Size == 0))))))
theorem target_p (x : Int) : ref06_target BIG x = some (regP x 9) := by rw [ref06_target_eq, forkB_and]; rfl
theorem register_p (x : Int) : ref06_register BIG x = some (regP x 10) := by rw [ref06_register_eq, forkB_and]; rfl
theorem far_p (i : Ins) : ref06_far BIG i = some (farP i) := by rw [ref06_far_eq, forkB_and]; rfl
theorem sized_p (i : Ins) : ref06_sized BIG i = some (sizedP i.Size) := by rw [ref06_sized_eq, forkB_or, forkB_or, forkB_or]; rfl
theorem cond_p (i : Ins) : ref06Cond BIG i = some (decide (17 ≤ i.Op) && decide (i.Op ≤ 27)) := by rw [ref06Cond_eq, forkB_and]
theorem jumps_p (i : Ins) : insJumps BIG i = some (decide (16 ≤ i.Op) && decide (i.Op ≤ 27)) := by rw [insJumps_eq, forkB_and]
theorem jumps_r (i : Ins) : ref06Jumps BIG i = some (decide (16 ≤ i.Op) && decide (i.Op ≤ 27)) := by
  rw [ref06Jumps_eq, cond_p, obind_of, forkB_or]
  refine congrArg some ?_
  rw [Bool.eq_iff_iff]
  simp; omega
theorem second_p (i : Ins) : ref06_second BIG i = some (secondP i) := by
  rw [ref06_second_eq]
  simp only [ref06_second_J0_eq, register_p, obind_of, forkB_and]
  obtain ⟨op, nw, d, s, u, off, imm, sz⟩ := i
  unfold secondP
  cases u <;> simp only [forkB_if]
  · grind
  · grind
theorem right_r (i : Ins) : ref06Right BIG i = some (rightP i) := by
  rw [ref06Right_eq]
  simp only [ref06Right_J0_eq, target_p, register_p, far_p, sized_p, cond_p, second_p, obind_of, forkB_and]
  obtain ⟨op, nw, d, s, u, off, imm, sz⟩ := i
  unfold rightP
  simp only [forkB_if, Option.some.injEq, beq_self_eq_true, Bool.true_and]
  by_cases h1 : 1 ≤ op ∧ op ≤ 12
  · grind
  by_cases h2 : op = 13
  · subst h2; cases nw <;> cases u <;> grind
  by_cases h3 : op = 14
  · subst h3; cases nw <;> cases u <;> grind
  by_cases h4 : op = 15
  · subst h4; grind
  by_cases h5 : op = 16
  · subst h5; cases nw <;> cases u <;> grind
  by_cases h6 : 17 ≤ op ∧ op ≤ 27
  · grind
  · cases nw <;> cases u <;> grind
theorem fields_p (op : Int) : ins_fields BIG op = some (if 1 ≤ op ∧ op ≤ 12 then 201 else if op = 13 then 193 else if op = 14 then 181 else if op = 15 then 186 else if op = 16 then 144 else if 17 ≤ op ∧ op ≤ 27 then 218 else if op = 28 then 128 else 0) := by
  rw [ins_fields_eq]
  simp only [ins_fields_J0_eq, forkB_if]
  grind
theorem right_p (i : Ins) : insRight BIG i = some (rightP i) := by
  rw [insRight_eq, fields_p]
  obtain ⟨op, nw, d, s, u, off, imm, sz⟩ := i
  simp only [obind_of]
  have tail : ∀ (n : Nat) (f m : Int) (z : Bool) (x : Ins), insRight_J9 (n + 1) f m z op nw d s u off imm sz x.Op x.Narrow x.Dst x.Src x.UseImm x.Off x.Imm x.Size =
      some (f != 0 && ((op == x.Op && (nw == x.Narrow && (d == x.Dst && (s == x.Src && (u == x.UseImm && (off == x.Off && (imm == x.Imm && sz == x.Size))))))) && ((decide (0 ≤ d) && decide (d ≤ m)) && ((decide (0 ≤ s) && decide (s ≤ 10)) && ((decide (-32768 ≤ off) && decide (off ≤ 32767)) && ((decide (-2147483648 ≤ imm) && decide (imm ≤ 2147483647)) && z)))))) := by
    intro n f m z x
    simp only [insRight_J9_eq, within_p, obind_of, forkB_and]
  have tail' : ∀ (n : Nat) (f m : Int) (z : Bool) (a0 : Int) (a1 : Bool) (a2 a3 : Int) (a4 : Bool) (a5 a6 a7 : Int), insRight_J9 (n + 1) f m z op nw d s u off imm sz a0 a1 a2 a3 a4 a5 a6 a7 = _ := fun n f m z a0 a1 a2 a3 a4 a5 a6 a7 => tail n f m z ⟨a0, a1, a2, a3, a4, a5, a6, a7⟩
  by_cases h0 : 1 ≤ op ∧ op ≤ 12
  · rw [if_pos h0]
    cases nw <;> cases u <;> simp only [insRight_J0_eq, insRight_J1_eq, insRight_J2_eq, insRight_J3_eq, insRight_J4_eq, insRight_J5_eq, insRight_J6_eq, insRight_J7_eq, insRight_J8_eq, tail', contains4, obind_of, Bool.not_true, Bool.not_false, forkB_true, forkB_false, show (bAnd .i64 201 3 != 0) = true from by decide, show (bAnd .i64 201 4 != 0) = false from by decide, show (bAnd .i64 201 8 != 0) = true from by decide, show (bAnd .i64 201 16 != 0) = false from by decide, show (bAnd .i64 201 32 != 0) = false from by decide, show (bAnd .i64 201 64 != 0) = true from by decide, show (bAnd .i64 201 1 != 0) = true from by decide, show (bAnd .i64 201 32 == 0) = true from by decide] <;> (refine congrArg some ?_; rw [Bool.eq_iff_iff]; simp [rightP, secondP, regP, farP, *] <;> grind)
  by_cases h1 : op = 13
  · rw [if_neg h0, if_pos h1]
    cases nw <;> cases u <;> simp only [insRight_J0_eq, insRight_J1_eq, insRight_J2_eq, insRight_J3_eq, insRight_J4_eq, insRight_J5_eq, insRight_J6_eq, insRight_J7_eq, insRight_J8_eq, tail', contains4, obind_of, Bool.not_true, Bool.not_false, forkB_true, forkB_false, show (bAnd .i64 193 3 != 0) = true from by decide, show (bAnd .i64 193 4 != 0) = false from by decide, show (bAnd .i64 193 8 != 0) = false from by decide, show (bAnd .i64 193 16 != 0) = false from by decide, show (bAnd .i64 193 32 != 0) = false from by decide, show (bAnd .i64 193 64 != 0) = true from by decide, show (bAnd .i64 193 1 != 0) = true from by decide, show (bAnd .i64 193 32 == 0) = true from by decide] <;> (refine congrArg some ?_; rw [Bool.eq_iff_iff]; simp [rightP, secondP, regP, farP, *] <;> grind)
  by_cases h2 : op = 14
  · rw [if_neg h0, if_neg h1, if_pos h2]
    cases nw <;> cases u <;> simp only [insRight_J0_eq, insRight_J1_eq, insRight_J2_eq, insRight_J3_eq, insRight_J4_eq, insRight_J5_eq, insRight_J6_eq, insRight_J7_eq, insRight_J8_eq, tail', contains4, obind_of, Bool.not_true, Bool.not_false, forkB_true, forkB_false, show (bAnd .i64 181 3 != 0) = true from by decide, show (bAnd .i64 181 4 != 0) = true from by decide, show (bAnd .i64 181 8 != 0) = false from by decide, show (bAnd .i64 181 16 != 0) = true from by decide, show (bAnd .i64 181 32 != 0) = true from by decide, show (bAnd .i64 181 64 != 0) = false from by decide, show (bAnd .i64 181 1 != 0) = true from by decide, show (bAnd .i64 181 32 == 0) = false from by decide] <;> (refine congrArg some ?_; rw [Bool.eq_iff_iff]; simp [rightP, secondP, regP, farP, *] <;> grind)
  by_cases h3 : op = 15
  · rw [if_neg h0, if_neg h1, if_neg h2, if_pos h3]
    cases nw <;> cases u <;> simp only [insRight_J0_eq, insRight_J1_eq, insRight_J2_eq, insRight_J3_eq, insRight_J4_eq, insRight_J5_eq, insRight_J6_eq, insRight_J7_eq, insRight_J8_eq, tail', contains4, obind_of, Bool.not_true, Bool.not_false, forkB_true, forkB_false, show (bAnd .i64 186 3 != 0) = true from by decide, show (bAnd .i64 186 4 != 0) = false from by decide, show (bAnd .i64 186 8 != 0) = true from by decide, show (bAnd .i64 186 16 != 0) = true from by decide, show (bAnd .i64 186 32 != 0) = true from by decide, show (bAnd .i64 186 64 != 0) = false from by decide, show (bAnd .i64 186 1 != 0) = false from by decide, show (bAnd .i64 186 32 == 0) = false from by decide] <;> (refine congrArg some ?_; rw [Bool.eq_iff_iff]; simp [rightP, secondP, regP, farP, *] <;> grind)
  by_cases h4 : op = 16
  · rw [if_neg h0, if_neg h1, if_neg h2, if_neg h3, if_pos h4]
    cases nw <;> cases u <;> simp only [insRight_J0_eq, insRight_J1_eq, insRight_J2_eq, insRight_J3_eq, insRight_J4_eq, insRight_J5_eq, insRight_J6_eq, insRight_J7_eq, insRight_J8_eq, tail', contains4, obind_of, Bool.not_true, Bool.not_false, forkB_true, forkB_false, show (bAnd .i64 144 3 != 0) = false from by decide, show (bAnd .i64 144 4 != 0) = false from by decide, show (bAnd .i64 144 8 != 0) = false from by decide, show (bAnd .i64 144 16 != 0) = true from by decide, show (bAnd .i64 144 32 != 0) = false from by decide, show (bAnd .i64 144 64 != 0) = false from by decide, show (bAnd .i64 144 1 != 0) = false from by decide, show (bAnd .i64 144 32 == 0) = true from by decide] <;> (refine congrArg some ?_; rw [Bool.eq_iff_iff]; simp [rightP, secondP, regP, farP, *] <;> grind)
  by_cases h5 : 17 ≤ op ∧ op ≤ 27
  · rw [if_neg h0, if_neg h1, if_neg h2, if_neg h3, if_neg h4, if_pos h5]
    cases nw <;> cases u <;> simp only [insRight_J0_eq, insRight_J1_eq, insRight_J2_eq, insRight_J3_eq, insRight_J4_eq, insRight_J5_eq, insRight_J6_eq, insRight_J7_eq, insRight_J8_eq, tail', contains4, obind_of, Bool.not_true, Bool.not_false, forkB_true, forkB_false, show (bAnd .i64 218 3 != 0) = true from by decide, show (bAnd .i64 218 4 != 0) = false from by decide, show (bAnd .i64 218 8 != 0) = true from by decide, show (bAnd .i64 218 16 != 0) = true from by decide, show (bAnd .i64 218 32 != 0) = false from by decide, show (bAnd .i64 218 64 != 0) = true from by decide, show (bAnd .i64 218 1 != 0) = false from by decide, show (bAnd .i64 218 32 == 0) = true from by decide] <;> (refine congrArg some ?_; rw [Bool.eq_iff_iff]; simp [rightP, secondP, regP, farP, *] <;> grind)
  by_cases h6 : op = 28
  · rw [if_neg h0, if_neg h1, if_neg h2, if_neg h3, if_neg h4, if_neg h5, if_pos h6]
    cases nw <;> cases u <;> simp only [insRight_J0_eq, insRight_J1_eq, insRight_J2_eq, insRight_J3_eq, insRight_J4_eq, insRight_J5_eq, insRight_J6_eq, insRight_J7_eq, insRight_J8_eq, tail', contains4, obind_of, Bool.not_true, Bool.not_false, forkB_true, forkB_false, show (bAnd .i64 128 3 != 0) = false from by decide, show (bAnd .i64 128 4 != 0) = false from by decide, show (bAnd .i64 128 8 != 0) = false from by decide, show (bAnd .i64 128 16 != 0) = false from by decide, show (bAnd .i64 128 32 != 0) = false from by decide, show (bAnd .i64 128 64 != 0) = false from by decide, show (bAnd .i64 128 1 != 0) = false from by decide, show (bAnd .i64 128 32 == 0) = true from by decide] <;> (refine congrArg some ?_; rw [Bool.eq_iff_iff]; simp [rightP, secondP, regP, farP, *] <;> grind)
  · rw [if_neg h0, if_neg h1, if_neg h2, if_neg h3, if_neg h4, if_neg h5, if_neg h6]
    cases nw <;> cases u <;> simp only [insRight_J0_eq, insRight_J1_eq, insRight_J2_eq, insRight_J3_eq, insRight_J4_eq, insRight_J5_eq, insRight_J6_eq, insRight_J7_eq, insRight_J8_eq, tail', contains4, obind_of, Bool.not_true, Bool.not_false, forkB_true, forkB_false, show (bAnd .i64 0 3 != 0) = false from by decide, show (bAnd .i64 0 4 != 0) = false from by decide, show (bAnd .i64 0 8 != 0) = false from by decide, show (bAnd .i64 0 16 != 0) = false from by decide, show (bAnd .i64 0 32 != 0) = false from by decide, show (bAnd .i64 0 64 != 0) = false from by decide, show (bAnd .i64 0 1 != 0) = false from by decide, show (bAnd .i64 0 32 == 0) = true from by decide] <;> (refine congrArg some ?_; rw [Bool.eq_iff_iff]; simp [rightP, secondP, regP, farP, *] <;> grind)
end Go.Y
